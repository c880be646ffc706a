import PyProof.Rows.All
import Wide.All
import OpenK.AllK
import Wide.FinOn
import HandS.ForMost
import HandS.ForExc
import HandS.Lambda
import HandS.GenOver
import PyProof.GenQ
import HandS.SortInts
import HandS.Deep
import HandS.TupAny
import HandS.Conv
import HandS.Text
import HandS.Strs
import HandS.SortRule
import HandS.SetFor
import HandS.Style
import HandS.Small
import HandS.TupSets
import HandS.TryOnly
import PyProof.ConsumeS
import HandS.GenList
import PyProof.SumAny
import HandS.TryMany
import KE.DataCmp
import KE.DataMinMax
import KE.SortData
import HandS.SortKw
import KE.SortKeyHeap
import HandS.EndTab
import HandS.SetBool
import HandS.SetKeys
import HandS.Iter
import PySem.Challenge.RW_theatre_k15_lights_that_fade
set_option Elab.async false
set_option linter.all false
set_option maxRecDepth 100000
set_option maxHeartbeats 4000000
namespace L3
open PySem PySem.Spec PyProof.Rows L2
/-! ### code objects and their tables -/
/-- the code object at c, its table at P, its name nm -/
def CodeP (c P : Addr) (nm : Str) (h : Heap) : Prop := PySem.W.CodeHd h c P ∧ ∃ (oc : Obj) (vs : Array Value) (t : Tok), h.get? c = some oc ∧ oc.data = .fields vs ∧ vs[1]? = some (.str nm t)
def CodeT (c P : Addr) (nm : Str) : HO := .ext (CodeP c P nm)
def IsX (o : HO) : Prop := (∃ ps, o = .tbl ps) ∨ ∃ φ, o = .ext φ
/-- what is told of tables and codes is the same -/
def SameX (H H' : Hp) : Prop := ∀ a o, H a = some o → IsX o → H' a = some o
abbrev NmF := Option (Nat → Nat → Str)
/-- the table at P: each code object in it is known, and its table is one of these -/
inductive TabOk (H : Hp) : NmF → Addr → Prop
  | mk {f : NmF} {P : Addr} {ps : Array Value} (cf pf : Pos → Addr) (nf : Pos → Str) (hP : H P = some (.tbl ps)) (ht : TriplesOk ps.toList)
      (hc : ∀ pos cv, codeAmong pos ps.toList = some cv → cv = .ref (cf pos) ∧ H (cf pos) = some (CodeT (cf pos) (pf pos) (nf pos)) ∧ ∀ g, f = some g → nf pos = g pos.line pos.col)
      (hr : ∀ pos cv, codeAmong pos ps.toList = some cv → TabOk H none (pf pos)) : TabOk H f P
theorem TabOk.of_ex {H : Hp} {f : NmF} {P : Addr} {ps : Array Value} (hP : H P = some (.tbl ps)) (ht : TriplesOk ps.toList)
    (h : ∀ pos cv, codeAmong pos ps.toList = some cv → ∃ (c' P' : Addr) (nm : Str), cv = .ref c' ∧ H c' = some (CodeT c' P' nm) ∧ (∀ g, f = some g → nm = g pos.line pos.col) ∧ TabOk H none P') : TabOk H f P := by
  have h2 : ∀ pos : Pos, ∃ t : Addr × Addr × Str, ∀ cv, codeAmong pos ps.toList = some cv → cv = .ref t.1 ∧ H t.1 = some (CodeT t.1 t.2.1 t.2.2) ∧ (∀ g, f = some g → t.2.2 = g pos.line pos.col) ∧ TabOk H none t.2.1 := fun pos => by
    cases e : codeAmong pos ps.toList with
    | none => exact ⟨(0, 0, ""), fun cv z => by cases z⟩
    | some cv =>
      obtain ⟨c', P', nm, q⟩ := h pos cv e
      exact ⟨(c', P', nm), fun cv' z => by cases z; exact q⟩
  obtain ⟨t, ht2⟩ := Classical.axiomOfChoice h2
  exact .mk (fun p => (t p).1) (fun p => (t p).2.1) (fun p => (t p).2.2) hP ht (fun pos cv e => ⟨(ht2 pos cv e).1, (ht2 pos cv e).2.1, (ht2 pos cv e).2.2.1⟩) fun pos cv e => (ht2 pos cv e).2.2.2
theorem TabOk.same {H H' : Hp} (s : SameX H H') {f : NmF} {P : Addr} (t : TabOk H f P) : TabOk H' f P := by
  induction t with
  | mk cf pf nf hP ht hc hr ih => exact .mk cf pf nf (s _ _ hP (.inl ⟨_, rfl⟩)) ht (fun pos cv e => ⟨(hc pos cv e).1, s _ _ (hc pos cv e).2.1 (.inr ⟨_, rfl⟩), (hc pos cv e).2.2⟩) ih
theorem TabOk.weak {H : Hp} {f : NmF} {P : Addr} (t : TabOk H f P) : TabOk H none P := by
  cases t with
  | mk cf pf nf hP ht hc hr => exact .mk cf pf nf hP ht (fun pos cv e => ⟨(hc pos cv e).1, (hc pos cv e).2.1, fun g z => by cases z⟩) hr
theorem TabOk.nil {H : Hp} {f : NmF} {P : Addr} (h : H P = some (.tbl #[])) : TabOk H f P := .of_ex h True.intro fun pos cv hc => by
  have z : codeAmong pos [] = some cv := hc
  simp [codeAmong] at z
theorem among_app2 {pos p' : Pos} {c cv : Value} (l : List Value) (h : TriplesOk l) (hc : codeAmong p' (l ++ [rawInt pos.line, rawInt pos.col, c]) = some cv) : codeAmong p' l = some cv ∨ (cv = c ∧ p'.line = pos.line ∧ p'.col = pos.col) := by
  fun_induction TriplesOk l with
  | case1 =>
    simp only [List.nil_append, rawInt, codeAmong] at hc
    split at hc
    · rename_i q
      refine .inr ⟨(Option.some.inj hc).symm, ?_⟩
      simp only [Bool.and_eq_true, beq_iff_eq, decide_eq_true_eq] at q
      omega
    · cases hc
  | case2 a t b u x rest ih =>
    simp only [List.cons_append, codeAmong] at hc ⊢
    split at hc
    · rename_i q
      rw [if_pos q]
      exact .inl hc
    · rename_i q
      rw [if_neg q]
      exact ih h hc
  | case3 l h1 h2 => exact h.elim
/-- a table has grown by one code object -/
theorem TabOk.grow {H H1 : Hp} {P c' P' : Addr} {nm : Str} {pos : Pos} {ps : Array Value} (hP : H P = some (.tbl ps)) (hP1 : H1 P = some (.tbl (ps ++ #[rawInt pos.line, rawInt pos.col, .ref c'])))
    (hc1 : H1 c' = some (CodeT c' P' nm)) (hP' : H1 P' = some (.tbl #[])) (k : ∀ a o, a ≠ P → H a = some o → IsX o → H1 a = some o) {f : NmF} {Q : Addr} (t : TabOk H f Q) (hn : ∀ g, f = some g → Q = P → nm = g pos.line pos.col) : TabOk H1 f Q := by
  induction t with
  | @mk f Q qs cf pf nf hQ ht hc hr ih =>
    have ih' : ∀ p cv, codeAmong p qs.toList = some cv → TabOk H1 none (pf p) := fun p cv e => ih p cv e fun g z => by cases z
    have cd : ∀ p cv, codeAmong p qs.toList = some cv → H1 (cf p) = some (CodeT (cf p) (pf p) (nf p)) := fun p cv e => k _ _ (fun z => by
      have h1 := (hc p cv e).2.1
      rw [z, hP] at h1
      have h2 := Option.some.inj h1
      unfold CodeT at h2
      cases h2) (hc p cv e).2.1 (.inr ⟨_, rfl⟩)
    by_cases hq : Q = P
    · subst hq
      rw [hP] at hQ; cases hQ
      have eL : (ps ++ #[rawInt pos.line, rawInt pos.col, .ref c']).toList = ps.toList ++ [rawInt pos.line, rawInt pos.col, .ref c'] := by simp
      refine .of_ex hP1 (by rw [eL]; exact PySem.TriplesOk_snoc _ _ _ _ ht) fun p cv e => ?_
      rw [eL] at e
      rcases among_app2 _ ht e with e | ⟨rfl, e1, e2⟩
      · exact ⟨cf p, pf p, nf p, (hc p cv e).1, cd p cv e, (hc p cv e).2.2, ih' p cv e⟩
      · exact ⟨c', P', nm, rfl, hc1, fun g z => by rw [e1, e2]; exact hn g z rfl, .nil hP'⟩
    · exact .mk cf pf nf (k _ _ hq hQ (.inl ⟨_, rfl⟩)) ht (fun p cv e => ⟨(hc p cv e).1, cd p cv e, (hc p cv e).2.2⟩) ih'
theorem codeT_ext (c P : Addr) (nm : Str) : ∀ h1 h2 : Heap, CodeP c P nm h1 → (∀ o, h1.get? c = some o → h2.get? c = some o) → CodeP c P nm h2 := fun h1 h2 ⟨⟨o, vs, file, tf, flags, tg, inF, text, tt, e, r⟩, oc, vc, t, a, b⟩ k =>
  ⟨⟨o, vs, file, tf, flags, tg, inF, text, tt, k _ e, r⟩, oc, vc, t, k _ a, b⟩
section
variable {X : Cx} {pins : List (Addr × Obj)} {σ : L2.St} {H : Hp} {s : Shared}
def grown (H : Hp) (P c' P' : Addr) (qs : Array Value) (nm : Str) : Hp := upd (upd (upd H P (.tbl qs)) c' (CodeT c' P' nm)) P' (.tbl #[])
/-- the table has grown, the code object at c' and its table are new -/
theorem inv_grow {P c' P' : Addr} {nm : Str} {ps more : Array Value} {h' : Heap} {g' : Array GenState} {t' : Nat} (I : Inv X pins σ H s) (hP : H P = some (.tbl ps)) (k : ∀ b o, b ≠ P → s.heap.get? b = some o → h'.get? b = some o)
    (hm : h'.get? P = some { cls := .none, data := .fields (ps ++ more) }) (hc : s.heap.objs.size ≤ c') (hcp : CodeP c' P' nm h') (hq : s.heap.objs.size ≤ P') (hne : c' ≠ P') (hm' : h'.get? P' = some { cls := .none, data := .fields #[] }) (hg : AllBare g') :
    Inv X pins σ (grown H P c' P' (ps ++ more) nm) { s with heap := h', gens := g', toks := t' } := by
  have nC : H c' = none := I.hok.fresh hc
  have nQ : H P' = none := I.hok.fresh hq
  have nPc : P ≠ c' := ne_of_none hP nC
  have nPq : P ≠ P' := ne_of_none hP nQ
  have at_ : ∀ b, b ≠ P → b ≠ c' → b ≠ P' → grown H P c' P' (ps ++ more) nm b = H b := fun b h1 h2 h3 => by unfold grown; rw [upd_ne h3, upd_ne h2, upd_ne h1]
  have atP : grown H P c' P' (ps ++ more) nm P = some (.tbl (ps ++ more)) := by unfold grown; rw [upd_ne nPq, upd_ne nPc, upd_same]
  have atC : grown H P c' P' (ps ++ more) nm c' = some (CodeT c' P' nm) := by unfold grown; rw [upd_ne hne, upd_same]
  have atQ : grown H P c' P' (ps ++ more) nm P' = some (.tbl #[]) := by unfold grown; rw [upd_same]
  have nP : ∀ b u, H b = some u → (∀ q, u ≠ .tbl q) → b ≠ P := fun b u e q z => by
    rw [z, hP] at e
    exact q ps (Option.some.inj e).symm
  have nN : ∀ b, H b = none → b ≠ P := fun b e z => by
    rw [z, hP] at e
    cases e
  have lt' : ∀ b o, s.heap.get? b = some o → b ≠ c' ∧ b ≠ P' := fun b o e => ⟨fun z => by
    rw [z] at e
    exact Nat.lt_irrefl _ (Nat.lt_of_lt_of_le (Heap.lt_size e) hc), fun z => by
    rw [z] at e
    exact Nat.lt_irrefl _ (Nat.lt_of_lt_of_le (Heap.lt_size e) hq)⟩
  have sm : ∀ b u, H b = some u → b ≠ c' ∧ b ≠ P' := fun b u e => ⟨ne_of_none e nC, ne_of_none e nQ⟩
  refine I.step (g' := g') (d' := s.drawn) (ch := []) (fun b hb => absurd hb (by simp)) (fun b o _ _ _ e n => k b o (nN b n) e) (fun b o _ _ _ e n => ⟨o.slots, k b o (nN b n) e⟩)
    (fun b o _ e n => by rw [at_ b (nN b n) (lt' b o e).1 (lt' b o e).2]; exact n) (fun b o _ e => ?_) (fun b xs e => by rw [at_ b (nP b _ e (fun q z => by cases z)) (sm b _ e).1 (sm b _ e).2]; exact e) (fun b o u e => by rw [at_ b (nP b _ e (fun q z => by cases z)) (sm b _ e).1 (sm b _ e).2]; exact e) (fun b qs e => ?_) (fun m hn => ?_) (fun b u e => ?_) hg
  · by_cases hb : b = P
    · rw [hb]
      exact ⟨_, hm⟩
    · exact ⟨o, k b o hb e⟩
  · by_cases hb : b = P
    · rw [hb, hP] at e
      cases e
      rw [hb, atP]
      exact ⟨more, rfl⟩
    · rw [at_ b hb (sm b _ e).1 (sm b _ e).2, e]
      exact ⟨#[], by simp⟩
  · obtain ⟨ob, es, ep, ho, r⟩ := hn
    exact ⟨ob, es, ep, k _ ob (nN _ I.free) ho, r⟩
  · by_cases hb : b = c'
    · rw [hb, atC] at e
      cases e
      rw [hb]
      obtain ⟨h1, oc, vs, t, e1, e2, e3⟩ := id hcp
      exact ⟨hcp, ⟨oc, e1⟩, codeT_ext c' P' nm⟩
    · by_cases hb2 : b = P
      · rw [hb2, atP] at e
        cases e
        rw [hb2]
        exact hm
      · by_cases hb3 : b = P'
        · rw [hb3, atQ] at e
          cases e
          rw [hb3]
          exact hm'
        · rw [at_ b hb2 hb hb3] at e
          refine (I.hok b u e).stay (fun d v hd q => k d v ?_ q) (fun d q => by rw [at_ d (nP d _ q (fun q z => by cases z)) (sm d _ q).1 (sm d _ q).2]; exact q) fun d xs q => by rw [at_ d (nP d _ q (fun q z => by cases z)) (sm d _ q).1 (sm d _ q).2]; exact q
          rcases hd with z | z
          · rw [z]
            exact hb2
          · exact nP d _ z (fun q z => by cases z)
theorem grown_same {H : Hp} {P c' P' : Addr} {qs ps : Array Value} {nm : Str} (hP : H P = some (.tbl ps)) (hc : H c' = none) (hq : H P' = none) : ∀ a o, H a = some o → a ≠ P → grown H P c' P' qs nm a = some o := fun a o e h => by
  unfold grown
  rw [upd_ne (ne_of_none e hq), upd_ne (ne_of_none e hc), upd_ne h]
  exact e
theorem tab_grown {H : Hp} {P c' P' : Addr} {ps : Array Value} {nm : Str} {pos : Pos} (hP : H P = some (.tbl ps)) (hc : H c' = none) (hq : H P' = none) (hne : c' ≠ P') {f : NmF} {Q : Addr} (t : TabOk H f Q) (hn : ∀ g, f = some g → Q = P → nm = g pos.line pos.col) :
    TabOk (grown H P c' P' (ps ++ #[rawInt pos.line, rawInt pos.col, .ref c']) nm) f Q := by
  refine TabOk.grow (c' := c') (P' := P') (nm := nm) (pos := pos) hP ?_ ?_ ?_ (fun a o ha e _ => grown_same hP hc hq a o e ha) t hn
  · unfold grown; rw [upd_ne (ne_of_none hP hq), upd_ne (ne_of_none hP hc), upd_same]
  · unfold grown; rw [upd_ne hne, upd_same]
  · unfold grown; rw [upd_same]
end
end L3

namespace L3
open PySem L2
/-- data -/
inductive D where
  | non | bl (b : Bool) | int (i : Int) | str (x : Str)
  | lst (xs : List D) | tup (xs : List D)
  | dK (kvs : List (Key × D)) | dT (kvs : List (List Key × D))
instance : Inhabited D := ⟨.non⟩

/-- how tuples are tracked: plainly, or by their object -/
class Md where
  fz : Bool
variable [Md]
/-- no table -/
def nt (o : HO) : Prop := ∀ ps, o ≠ .tbl ps
def OT (o : HO) (vs : List V) : Prop := (Md.fz = false ∧ o = .tup vs) ∨ (Md.fz = true ∧ ∃ ob : Obj, ob.dict = none ∧ o = .frz ob (.tup vs))
theorem OT.sq {K : PySem.W.Frag} {H : Hp} {a : Addr} {o : HO} {vs : List V} (t : OT o vs) (e : H a = some o) : SqT K H a vs := by
  rcases t with ⟨_, rfl⟩ | ⟨_, ob, _, rfl⟩
  · exact .inl (.inl e)
  · exact .inl (.inr ⟨ob, e⟩)
theorem OT.tup (h : Md.fz = false) {o : HO} {vs : List V} (t : OT o vs) : o = .tup vs := by
  rcases t with ⟨_, rfl⟩ | ⟨h', _⟩
  · rfl
  · rw [h] at h'; cases h'
mutual
inductive Rp (B : Addr → Prop) (H : Hp) : V → D → Prop
  | non : Rp B H .non .non
  | bl (b : Bool) : Rp B H (.bl b) (.bl b)
  | int (i : Int) : Rp B H (.int i) (.int i)
  | str (x : Str) : Rp B H (.str x) (.str x)
  | ob {a : Addr} {o : HO} {d : D} : H a = some o → ¬ B a → OR B H o d → Rp B H (.ref a) d
inductive OR (B : Addr → Prop) (H : Hp) : HO → D → Prop
  | lst {vs : List V} {ds : List D} : RpAll B H vs ds → OR B H (.lst vs) (.lst ds)
  | tup {o : HO} {vs : List V} {ds : List D} : OT o vs → RpAll B H vs ds → OR B H o (.tup ds)
  | dK {kvs : List (Key × V)} {es : List (Key × D)} : RpK B H kvs es → OR B H (.dK kvs) (.dK es)
  | dT {kvs : List (List Key × V)} {es : List (List Key × D)} : RpT B H kvs es → OR B H (.dT kvs) (.dT es)
inductive RpAll (B : Addr → Prop) (H : Hp) : List V → List D → Prop
  | nil : RpAll B H [] []
  | cons {v : V} {d : D} {vs : List V} {ds : List D} : Rp B H v d → RpAll B H vs ds → RpAll B H (v :: vs) (d :: ds)
inductive RpK (B : Addr → Prop) (H : Hp) : List (Key × V) → List (Key × D) → Prop
  | nil : RpK B H [] []
  | cons {k : Key} {v : V} {d : D} {vs : List (Key × V)} {ds : List (Key × D)} : Rp B H v d → RpK B H vs ds → RpK B H ((k, v) :: vs) ((k, d) :: ds)
inductive RpT (B : Addr → Prop) (H : Hp) : List (List Key × V) → List (List Key × D) → Prop
  | nil : RpT B H [] []
  | cons {k : List Key} {v : V} {d : D} {vs : List (List Key × V)} {ds : List (List Key × D)} : Rp B H v d → RpT B H vs ds → RpT B H ((k, v) :: vs) ((k, d) :: ds)
end
section
theorem OT.nt {o : HO} {vs : List V} (t : OT o vs) : nt o := by
  rcases t with ⟨_, rfl⟩ | ⟨_, ob, _, rfl⟩
  · exact fun _ h => by cases h
  · exact fun _ h => by cases h
theorem OR.nt {B : Addr → Prop} {H : Hp} {o : HO} {d : D} (h : OR B H o d) : nt o := by
  cases h with
  | lst _ => exact fun _ h => by cases h
  | tup t _ => exact t.nt
  | dK _ => exact fun _ h => by cases h
  | dT _ => exact fun _ h => by cases h
variable {B B' : Addr → Prop} {H H' : Hp} (hH : ∀ a o, ¬ B a → H a = some o → nt o → H' a = some o ∧ ¬ B' a)
include hH
mutual
theorem Rp.mono : ∀ {v : V} {d : D}, Rp B H v d → Rp B' H' v d
  | _, _, .non => .non
  | _, _, .bl b => .bl b
  | _, _, .int b => .int b
  | _, _, .str b => .str b
  | _, _, .ob h n o => .ob (hH _ _ n h o.nt).1 (hH _ _ n h o.nt).2 (OR.mono o)
theorem OR.mono : ∀ {o : HO} {d : D}, OR B H o d → OR B' H' o d
  | _, _, .lst r => .lst (RpAll.mono r)
  | _, _, .tup t r => .tup t (RpAll.mono r)
  | _, _, .dK r => .dK (RpK.mono r)
  | _, _, .dT r => .dT (RpT.mono r)
theorem RpAll.mono : ∀ {o : List V} {d : List D}, RpAll B H o d → RpAll B' H' o d
  | _, _, .nil => .nil
  | _, _, .cons r t => .cons (Rp.mono r) (RpAll.mono t)
theorem RpK.mono : ∀ {o : List (Key × V)} {d : List (Key × D)}, RpK B H o d → RpK B' H' o d
  | _, _, .nil => .nil
  | _, _, .cons r t => .cons (Rp.mono r) (RpK.mono t)
theorem RpT.mono : ∀ {o : List (List Key × V)} {d : List (List Key × D)}, RpT B H o d → RpT B' H' o d
  | _, _, .nil => .nil
  | _, _, .cons r t => .cons (Rp.mono r) (RpT.mono t)
end
end
/-- what may be owned -/
def Mu : HO → Prop
  | .lst _ => True
  | .dK _ => True
  | .dT _ => True
  | _ => False
theorem Mu.nt {o : HO} (h : Mu o) : nt o := fun ps e => by subst e; exact h
/-- an error: its class's name, its field (where it has one) -/
abbrev Exc := Str × Option (Str × D)
/-- what a slot holds: a shared value; an owned list or dict; one lent by the caller -/
inductive SV where
  | sh (d : D) | ow (d : D) | io (d : D)
abbrev DEnv := List (Option SV)
/-- what an expression gives: a value, an owned slot's object, a new object -/
inductive R where
  | val (d : D) | slot (i : Nat) | fresh (d : D)
abbrev M (α : Type) := DEnv → Option (Except Exc α × DEnv)
def M.pure {α : Type} (a : α) : M α := fun ρ => some (.ok a, ρ)
def M.bind {α β : Type} (f : M α) (g : α → M β) : M β := fun ρ =>
  match f ρ with
  | some (.ok a, ρ1) => g a ρ1
  | some (.error e, ρ1) => some (.error e, ρ1)
  | none => none
def M.of {α : Type} (o : Option α) : M α := fun ρ => match o with
  | some a => some (.ok a, ρ)
  | none => none
def cont (ρ : DEnv) (i : Nat) : Option D := match ρ[i]? with
  | some (some (.ow d)) => some d
  | some (some (.io d)) => some d
  | _ => none
def deref (ρ : DEnv) : R → Option D
  | .val d => some d
  | .fresh d => some d
  | .slot i => cont ρ i
def stab : R → Option D
  | .val d => some d
  | .fresh d => some d
  | .slot _ => none
def M.deref (r : R) : M D := fun ρ => M.of (L3.deref ρ r) ρ

def Bad (F : Addr → Prop) (A : Nat → Option Addr) (O : List (Option Addr)) : Addr → Prop := fun a => F a ∨ some a ∈ O ∨ ∃ i, A i = some a

def SlotOk (F : Addr → Prop) (A : Nat → Option Addr) (O : List (Option Addr)) (σ : St) (H : Hp) (i : Nat) : SV → Prop
  | .sh d => ∃ v, σ[i]? = some (some v) ∧ Rp (Bad F A O) H v d
  | .ow d => ∃ p o, O[i]? = some (some p) ∧ ¬ F p ∧ (∀ j, A j ≠ some p) ∧ σ[i]? = some (some (.ref p)) ∧ H p = some o ∧ Mu o ∧ OR (Bad F A O) H o d
  | .io d => ∃ p o, O[i]? = some (some p) ∧ A i = some p ∧ σ[i]? = some (some (.ref p)) ∧ H p = some o ∧ Mu o ∧ OR (Bad F A O) H o d

/-- all but the owned and the tables stays -/
structure Kp (H : Hp) (a : Addr) (o : HO) (H' : Hp) : Prop where
  nt : nt o → H' a = some o
  tb : ∀ ps, o = .tbl ps → ∃ qs, H' a = some (.tbl qs)
theorem Kp.ex {H H' : Hp} {a : Addr} {o : HO} (k : Kp H a o H') : ∃ o', H' a = some o' := by
  by_cases h : ∃ ps, o = .tbl ps
  · obtain ⟨ps, e⟩ := h
    obtain ⟨qs, z⟩ := k.tb ps e
    exact ⟨_, z⟩
  · exact ⟨o, k.nt fun ps e => h ⟨ps, e⟩⟩
theorem Kp.of {H H' : Hp} {a : Addr} {o : HO} (e : H' a = some o) : Kp H a o H' := ⟨fun _ => e, fun ps z => ⟨ps, by rw [← z]; exact e⟩⟩
theorem Kp.trans {H H1 H2 : Hp} {a : Addr} {o : HO} (k : Kp H a o H1) (h : ∀ o', H1 a = some o' → Kp H1 a o' H2) : Kp H a o H2 :=
  ⟨fun n => (h o (k.nt n)).nt n, fun ps e => by
    obtain ⟨qs, z⟩ := k.tb ps e
    exact (h _ z).tb qs rfl⟩
def Tr (O : List (Option Addr)) (H : Hp) (O' : List (Option Addr)) (H' : Hp) : Prop := ∀ a o, some a ∉ O → H a = some o → Kp H a o H' ∧ some a ∉ O'
theorem Tr.refl {O : List (Option Addr)} {H : Hp} : Tr O H O H := fun _ _ n e => ⟨.of e, n⟩
theorem Tr.trans {O O1 O2 : List (Option Addr)} {H H1 H2 : Hp} (a : Tr O H O1 H1) (b : Tr O1 H1 O2 H2) : Tr O H O2 H2 := fun c o n e => by
  obtain ⟨k, m⟩ := a c o n e
  refine ⟨k.trans fun o' e' => (b c o' m e').1, ?_⟩
  obtain ⟨o', e'⟩ := k.ex
  exact (b c o' m e').2
theorem Tr.same {O : List (Option Addr)} {H H' : Hp} (s : Same H H') : Tr O H O H' := fun a o n e => ⟨.of (s a o e), n⟩
theorem Tr.at {O O' : List (Option Addr)} {H H' : Hp} (t : Tr O H O' H') {a : Addr} {o : HO} (n : some a ∉ O) (e : H a = some o) (h : nt o) : H' a = some o := (t a o n e).1.nt h
theorem Tr.ex {O O' : List (Option Addr)} {H H' : Hp} (t : Tr O H O' H') {a : Addr} {o : HO} (n : some a ∉ O) (e : H a = some o) : ∃ o', H' a = some o' := (t a o n e).1.ex
/-- the tables of code objects, and how the code objects in them are named; code objects made amid a run -/
class Tb where
  T : List (Addr × NmF)
  C : List (Addr × Addr)
variable [Tb]
structure TabsT (H : Hp) : Prop where
  t : ∀ p ∈ Tb.T, TabOk H p.2 p.1
  c : ∀ q ∈ Tb.C, ∃ nm, H q.1 = some (CodeT q.1 q.2 nm)
theorem TabsT.same {H H' : Hp} (h : TabsT H) (s : SameX H H') : TabsT H' := ⟨fun p hp => (h.t p hp).same s, fun q hq => let ⟨nm, e⟩ := h.c q hq; ⟨nm, s _ _ e (.inr ⟨_, rfl⟩)⟩⟩
theorem TabsT.ext {H H' : Hp} (h : TabsT H) (s : ∀ b o, H b = some o → H' b = some o) : TabsT H' := h.same fun a o e _ => s a o e
structure Rel (F : Addr → Prop) (A : Nat → Option Addr) (O : List (Option Addr)) (σ : St) (H : Hp) (ρ : DEnv) : Prop where
  lenO : ρ.length ≤ O.length
  lenS : σ.length = ρ.length
  dom : ∀ a, F a → ∃ o, H a = some o
  domA : ∀ i a, A i = some a → ∃ o, H a = some o
  domO : ∀ (i : Nat) (p : Addr), O[i]? = some (some p) → ∃ o, H p = some o
  inj : ∀ (i j : Nat) (p : Addr), O[i]? = some (some p) → O[j]? = some (some p) → i = j
  slot : ∀ (i : Nat) (sv : SV), ρ[i]? = some (some sv) → SlotOk F A O σ H i sv
  tabs : TabsT H

/-- the tables while something else is written -/
theorem Mu.nox {o : HO} (h : Mu o) : ¬ IsX o := fun z => by
  rcases z with ⟨ps, rfl⟩ | ⟨φ, rfl⟩
  · exact h
  · exact h
theorem sameX_upd {H : Hp} {p : Addr} {o o' : HO} (e : H p = some o) (mu : Mu o) : SameX H (upd H p o') := fun a u ea x => by
  have hne : a ≠ p := fun z => by
    rw [z, e] at ea
    cases ea
    exact mu.nox x
  rw [upd_ne hne]
  exact ea
theorem tabs_upd {H : Hp} {p : Addr} {o o' : HO} (h : TabsT H) (e : H p = some o) (mu : Mu o) : TabsT (upd H p o') := h.same (sameX_upd e mu)

section
variable {F : Addr → Prop} {A : Nat → Option Addr} {O : List (Option Addr)} {σ : St} {H H1 H2 H' : Hp} {ρ ρ' : DEnv} {v : V} {d : D} {o : HO} {p : Addr}
theorem mem_O {O : List (Option Addr)} {p : Addr} : some p ∈ O ↔ ∃ i : Nat, O[i]? = some (some p) := by
  rw [List.mem_iff_getElem?]
theorem Bad.tr {O' : List (Option Addr)} (t : Tr O H O' H') : ∀ a o, ¬ Bad F A O a → H a = some o → nt o → H' a = some o ∧ ¬ Bad F A O' a := fun a o n e ht => by
  have q := t a o (fun z => n (.inr (.inl z))) e
  refine ⟨q.1.nt ht, fun z => ?_⟩
  rcases z with z | z | z
  · exact n (.inl z)
  · exact q.2 z
  · exact n (.inr (.inr z))
theorem Rp.tr {O' : List (Option Addr)} (r : Rp (Bad F A O) H v d) (t : Tr O H O' H') : Rp (Bad F A O') H' v d := Rp.mono (Bad.tr t) r
theorem OR.tr {O' : List (Option Addr)} (r : OR (Bad F A O) H o d) (t : Tr O H O' H') : OR (Bad F A O') H' o d := OR.mono (Bad.tr t) r
theorem RpAll.tr {O' : List (Option Addr)} {vs : List V} {ds : List D} (r : RpAll (Bad F A O) H vs ds) (t : Tr O H O' H') : RpAll (Bad F A O') H' vs ds := RpAll.mono (Bad.tr t) r
theorem Rel.good (r : Rel F A O σ H ρ) (n : H p = none) : ¬ Bad F A O p := fun z => by
  rcases z with z | z | ⟨i, z⟩
  · obtain ⟨o, e⟩ := r.dom p z; rw [n] at e; cases e
  · obtain ⟨i, z⟩ := mem_O.mp z
    obtain ⟨o, e⟩ := r.domO i p z; rw [n] at e; cases e
  · obtain ⟨o, e⟩ := r.domA i p z; rw [n] at e; cases e
/-- the heap grows -/
theorem Rel.grow (r : Rel F A O σ H ρ) (s : Same H H') : Rel F A O σ H' ρ where
  lenO := r.lenO
  lenS := r.lenS
  dom := fun a z => let ⟨o, e⟩ := r.dom a z; ⟨o, s _ _ e⟩
  domA := fun i a z => let ⟨o, e⟩ := r.domA i a z; ⟨o, s _ _ e⟩
  domO := fun i a z => let ⟨o, e⟩ := r.domO i a z; ⟨o, s _ _ e⟩
  inj := r.inj
  tabs := r.tabs.ext s
  slot := fun i sv e => by
    have q := r.slot i sv e
    cases sv with
    | sh d => obtain ⟨v, e1, e2⟩ := q; exact ⟨v, e1, e2.tr (Tr.same s)⟩
    | ow d => obtain ⟨p, o, e1, e2, e3, e4, e5, mu, e6⟩ := q; exact ⟨p, o, e1, e2, e3, e4, s _ _ e5, mu, e6.tr (Tr.same s)⟩
    | io d => obtain ⟨p, o, e1, e3, e4, e5, mu, e6⟩ := q; exact ⟨p, o, e1, e3, e4, s _ _ e5, mu, e6.tr (Tr.same s)⟩
theorem same_new (h : H p = none) (o : HO) : Same H (upd H p o) := fun b u q => by rw [upd_ne (ne_of_none q h)]; exact q
end

/-- v stands for r -/
def RB (F : Addr → Prop) (A : Nat → Option Addr) (O : List (Option Addr)) (H : Hp) (v : V) : R → Prop
  | .val d => Rp (Bad F A O) H v d
  | .fresh d => Rp (Bad F A O) H v d
  | .slot i => ∃ p, O[i]? = some (some p) ∧ v = .ref p
theorem RB.tr {F : Addr → Prop} {A : Nat → Option Addr} {O : List (Option Addr)} {H H' : Hp} {v : V} {r : R} (h : RB F A O H v r) (t : Tr O H O H') : RB F A O H' v r := by
  cases r with
  | val d => exact Rp.tr h t
  | fresh d => exact Rp.tr h t
  | slot i => exact h
/-- borrowed: the object itself may be owned, what is in it is not -/
def Rb (B : Addr → Prop) (H : Hp) (v : V) (d : D) : Prop := Rp B H v d ∨ ∃ a o, v = .ref a ∧ H a = some o ∧ Mu o ∧ OR B H o d
theorem RB.rb {F : Addr → Prop} {A : Nat → Option Addr} {O : List (Option Addr)} {σ : St} {H : Hp} {ρ : DEnv} {v : V} {r : R} {d : D} (rel : Rel F A O σ H ρ) (h : RB F A O H v r) (e : deref ρ r = some d) : Rb (Bad F A O) H v d := by
  cases r with
  | val d' => cases e; exact .inl h
  | fresh d' => cases e; exact .inl h
  | slot i =>
    obtain ⟨p, e1, rfl⟩ := h
    have e : cont ρ i = some d := e
    unfold cont at e
    split at e
    · rename_i d' q
      cases e
      obtain ⟨p', o, e2, _, _, _, e3, mu, e4⟩ := rel.slot i _ q
      rw [e1] at e2; cases e2
      exact .inr ⟨p, o, rfl, e3, mu, e4⟩
    · rename_i d' q
      cases e
      obtain ⟨p', o, e2, _, _, e3, mu, e4⟩ := rel.slot i _ q
      rw [e1] at e2; cases e2
      exact .inr ⟨p, o, rfl, e3, mu, e4⟩
    · cases e
section
variable {B : Addr → Prop} {H : Hp} {v : V}
theorem Rb.int {i : Int} (h : Rb B H v (.int i)) : v = .int i := by
  rcases h with h | ⟨a, o, rfl, _, _, h⟩
  · cases h with
    | int => rfl
    | ob _ _ h => cases h
  · cases h
theorem Rb.bl {i : Bool} (h : Rb B H v (.bl i)) : v = .bl i := by
  rcases h with h | ⟨a, o, rfl, _, _, h⟩
  · cases h with
    | bl => rfl
    | ob _ _ h => cases h
  · cases h
theorem Rb.str {i : Str} (h : Rb B H v (.str i)) : v = .str i := by
  rcases h with h | ⟨a, o, rfl, _, _, h⟩
  · cases h with
    | str => rfl
    | ob _ _ h => cases h
  · cases h
theorem Rb.non (h : Rb B H v .non) : v = .non := by
  rcases h with h | ⟨a, o, rfl, _, _, h⟩
  · cases h with
    | non => rfl
    | ob _ _ h => cases h
  · cases h
theorem Rb.lst {ds : List D} (h : Rb B H v (.lst ds)) : ∃ a vs, v = .ref a ∧ H a = some (.lst vs) ∧ RpAll B H vs ds := by
  rcases h with h | ⟨a, o, rfl, e, mu, h⟩
  · cases h with
    | ob e _ h => cases h with
      | lst h => exact ⟨_, _, rfl, e, h⟩
  · cases h with
    | lst h => exact ⟨_, _, rfl, e, h⟩
theorem Rb.tup {ds : List D} (h : Rb B H v (.tup ds)) : ∃ a o vs, v = .ref a ∧ H a = some o ∧ OT o vs ∧ RpAll B H vs ds ∧ ¬ B a := by
  rcases h with h | ⟨a, o, rfl, e, mu, h⟩
  · cases h with
    | ob e n h => cases h with
      | tup t h => exact ⟨_, _, _, rfl, e, t, h, n⟩
  · cases h with
    | tup t h =>
      rcases t with ⟨_, rfl⟩ | ⟨_, ob, _, rfl⟩
      · exact mu.elim
      · exact mu.elim
theorem Rb.dK {ds : List (Key × D)} (h : Rb B H v (.dK ds)) : ∃ a vs, v = .ref a ∧ H a = some (.dK vs) ∧ RpK B H vs ds := by
  rcases h with h | ⟨a, o, rfl, e, mu, h⟩
  · cases h with
    | ob e _ h => cases h with
      | dK h => exact ⟨_, _, rfl, e, h⟩
  · cases h with
    | dK h => exact ⟨_, _, rfl, e, h⟩
theorem Rb.dT {ds : List (List Key × D)} (h : Rb B H v (.dT ds)) : ∃ a vs, v = .ref a ∧ H a = some (.dT vs) ∧ RpT B H vs ds := by
  rcases h with h | ⟨a, o, rfl, e, mu, h⟩
  · cases h with
    | ob e _ h => cases h with
      | dT h => exact ⟨_, _, rfl, e, h⟩
  · cases h with
    | dT h => exact ⟨_, _, rfl, e, h⟩
theorem RpAll.length : ∀ {vs : List V} {ds : List D}, RpAll B H vs ds → vs.length = ds.length
  | _, _, .nil => rfl
  | _, _, .cons _ t => congrArg (· + 1) (RpAll.length t)
theorem RpAll.get : ∀ {vs : List V} {ds : List D} {i : Nat} {d : D}, RpAll B H vs ds → ds[i]? = some d → ∃ v, vs[i]? = some v ∧ Rp B H v d
  | _, _, _, _, .nil, e => by simp at e
  | _, _, 0, _, .cons r _, e => by simp at e; subst e; exact ⟨_, rfl, r⟩
  | _, _, i + 1, d, .cons _ t, e => by
    obtain ⟨u, h1, h2⟩ := RpAll.get (i := i) (d := d) t (by simpa using e)
    exact ⟨u, by simpa using h1, h2⟩
theorem RpAll.get' : ∀ {vs : List V} {ds : List D} {i : Nat} {v : V}, RpAll B H vs ds → vs[i]? = some v → ∃ d, ds[i]? = some d ∧ Rp B H v d
  | _, _, _, _, .nil, e => by simp at e
  | _, _, 0, _, .cons r _, e => by simp at e; subst e; exact ⟨_, rfl, r⟩
  | _, _, i + 1, d, .cons _ t, e => by
    obtain ⟨u, h1, h2⟩ := RpAll.get' (i := i) (v := d) t (by simpa using e)
    exact ⟨u, by simpa using h1, h2⟩
theorem RpAll.append : ∀ {vs ws : List V} {ds es : List D}, RpAll B H vs ds → RpAll B H ws es → RpAll B H (vs ++ ws) (ds ++ es)
  | _, _, _, _, .nil, s => s
  | _, _, _, _, .cons r t, s => .cons r (RpAll.append t s)
theorem RpAll.take : ∀ {vs : List V} {ds : List D} (n : Nat), RpAll B H vs ds → RpAll B H (vs.take n) (ds.take n)
  | _, _, 0, _ => .nil
  | _, _, _ + 1, .nil => .nil
  | _, _, n + 1, .cons r t => .cons r (RpAll.take n t)
theorem RpAll.drop : ∀ {vs : List V} {ds : List D} (n : Nat), RpAll B H vs ds → RpAll B H (vs.drop n) (ds.drop n)
  | _, _, 0, r => r
  | _, _, _ + 1, .nil => .nil
  | _, _, n + 1, .cons _ t => RpAll.drop n t
theorem RpAll.set {v : V} {d : D} (r : Rp B H v d) : ∀ {vs : List V} {ds : List D} (i : Nat), RpAll B H vs ds → RpAll B H (vs.set i v) (ds.set i d)
  | _, _, _, .nil => .nil
  | _, _, 0, .cons _ t => .cons r t
  | _, _, i + 1, .cons q t => .cons q (RpAll.set r i t)
theorem RpAll.erase : ∀ {vs : List V} {ds : List D} (i : Nat), RpAll B H vs ds → RpAll B H (vs.eraseIdx i) (ds.eraseIdx i)
  | _, _, _, .nil => .nil
  | _, _, 0, .cons _ t => t
  | _, _, i + 1, .cons q t => .cons q (RpAll.erase i t)
/-- a list of ints -/
def intsD : List D → Option (List Int)
  | [] => some []
  | .int i :: r => (intsD r).map (i :: ·)
  | _ :: _ => none
theorem RpAll.ints : ∀ {vs : List V} {ds : List D} {ns : List Int}, RpAll B H vs ds → intsD ds = some ns → vs = ns.map V.int
  | _, _, _, .nil, e => by cases e; rfl
  | _, _, _, .cons (d := .int i) r t, e => by
    unfold intsD at e
    cases h : intsD _ with
    | none => rw [h] at e; cases e
    | some ms =>
      rw [h] at e
      cases e
      rw [Rb.int (.inl r), RpAll.ints t h]
      rfl
theorem rpAll_ints (B : Addr → Prop) (H : Hp) : ∀ ns : List Int, RpAll B H (ns.map V.int) (ns.map D.int)
  | [] => .nil
  | i :: r => .cons (.int i) (rpAll_ints B H r)
theorem intsD_map : ∀ ns : List Int, intsD (ns.map D.int) = some ns
  | [] => rfl
  | i :: r => by simp [intsD, intsD_map r]
end

/-- the error x as the machine has it -/
def XRp (mg : Str → Option Value) (F : Addr → Prop) (A : Nat → Option Addr) (O : List (Option Addr)) (H : Hp) (x : Exc) (cls : Value) (dd : Option Addr) : Prop :=
  mg x.1 = some cls ∧ match x.2 with
  | none => dd = none
  | some (f, d) => ∃ q v, dd = some q ∧ H q = some (.xd [(f, v)]) ∧ Rp (Bad F A O) H v d

section
variable (mg : Str → Option Value) (W : WX)
def XPost (F : Addr → Prop) (A : Nat → Option Addr) (O : List (Option Addr)) (σ : St) (H : Hp) (ρ' : DEnv) (x : Exc) : Prop :=
  ∀ H' cls dd, Tr O H O H' → Rel F A O σ H' ρ' → XRp mg F A O H' x cls dd → W cls dd σ H'
def PostE (F : Addr → Prop) (A : Nat → Option Addr) (O : List (Option Addr)) (σ : St) (H : Hp) (ρ' : DEnv) (Q : VK) : Except Exc R → Prop
  | .ok (.val d) => ∀ H' v, Tr O H O H' → Rel F A O σ H' ρ' → Rp (Bad F A O) H' v d → Q v H'
  | .ok (.slot i) => ∀ H' p, Tr O H O H' → Rel F A O σ H' ρ' → O[i]? = some (some p) → Q (.ref p) H'
  | .ok (.fresh d) => ∀ H1 p o, Tr O H O H1 → Rel F A O σ H1 ρ' → H1 p = none → OR (Bad F A O) H1 o d → Q (.ref p) (upd H1 p o)
  | .error x => XPost mg W F A O σ H ρ' x
/-- the reading t does what f says -/
def Snd (t : TE) (f : M R) : Prop := ∀ F A O σ H ρ r ρ' Q, Rel F A O σ H ρ → f ρ = some (r, ρ') → PostE mg W F A O σ H ρ' Q r → t σ H Q
def SndT (t : TT) (f : M Bool) : Prop := ∀ F A O σ H ρ r ρ' Q, Rel F A O σ H ρ → f ρ = some (r, ρ') → (match r with
  | .ok b => ∀ H', Tr O H O H' → Rel F A O σ H' ρ' → Q b H'
  | .error x => XPost mg W F A O σ H ρ' x) → t σ H Q
inductive RBs (F : Addr → Prop) (A : Nat → Option Addr) (O : List (Option Addr)) (H : Hp) : List V → List R → Prop
  | nil : RBs F A O H [] []
  | cons {v : V} {r : R} {vs : List V} {rs : List R} : RB F A O H v r → RBs F A O H vs rs → RBs F A O H (v :: vs) (r :: rs)
def SndA (t : TA) (f : M (List R)) : Prop := ∀ F A O σ H ρ r ρ' Q, Rel F A O σ H ρ → f ρ = some (r, ρ') → (match r with
  | .ok rs => ∀ H' vs, Tr O H O H' → Rel F A O σ H' ρ' → RBs F A O H' vs rs → Q vs H'
  | .error x => XPost mg W F A O σ H ρ' x) → t σ H Q
end
section
variable {mg : Str → Option Value} {W : WX} {F : Addr → Prop} {A : Nat → Option Addr} {O : List (Option Addr)} {σ : St} {H H1 H' : Hp} {ρ ρ' : DEnv} {Q : VK} {t : TE} {f : M R} {β : Type} {r : Except Exc β}
theorem XPost.tr {x : Exc} (h : XPost mg W F A O σ H ρ' x) (a : Tr O H O H1) : XPost mg W F A O σ H1 ρ' x := fun H' cls dd b rel xr => h H' cls dd (a.trans b) rel xr
theorem PostE.tr {r : Except Exc R} (h : PostE mg W F A O σ H ρ' Q r) (a : Tr O H O H1) : PostE mg W F A O σ H1 ρ' Q r := by
  match r, h with
  | .ok (.val d), h => exact fun H' v b => h H' v (a.trans b)
  | .ok (.slot d), h => exact fun H' v b => h H' v (a.trans b)
  | .ok (.fresh d), h => exact fun H' v o b => h H' v o (a.trans b)
  | .error x, h => exact XPost.tr h a
theorem PostE.use {r : R} (h : ∀ H' v, Tr O H O H' → Rel F A O σ H' ρ' → RB F A O H' v r → Q v H') : PostE mg W F A O σ H ρ' Q (.ok r) := by
  match r, h with
  | .val d, h => exact fun H' v t rel rp => h H' v t rel rp
  | .slot d, h => exact fun H' p t rel rp => h H' _ t rel ⟨p, rp, rfl⟩
  | .fresh d, h => exact fun H1 p o t rel n ob => h _ _ (t.trans (Tr.same (same_new n o))) (rel.grow (same_new n o)) (Rp.ob upd_same (rel.good n) (ob.tr (Tr.same (same_new n o))))
/-- one part, then the rest -/
theorem Snd.then {g : R → M β} {K : VK} (hs : Snd mg W t f) (rel : Rel F A O σ H ρ) (hf : M.bind f g ρ = some (r, ρ')) (pe : ∀ x, r = .error x → XPost mg W F A O σ H ρ' x)
    (k : ∀ H1 v x ρ1, Tr O H O H1 → Rel F A O σ H1 ρ1 → RB F A O H1 v x → g x ρ1 = some (r, ρ') → K v H1) : t σ H K := by
  unfold M.bind at hf
  split at hf
  · rename_i a ρ1 q
    exact hs F A O σ H ρ _ _ K rel q (PostE.use fun H' v t rel' rb => k H' v a ρ1 t rel' rb hf)
  · rename_i e ρ1 q
    cases hf
    exact hs F A O σ H ρ _ _ K rel q (pe e rfl)
  · cases hf
theorem SndT.then {t : TT} {f : M Bool} {g : Bool → M β} {K : Bool → Hp → Prop} (hs : SndT mg W t f) (rel : Rel F A O σ H ρ) (hf : M.bind f g ρ = some (r, ρ')) (pe : ∀ x, r = .error x → XPost mg W F A O σ H ρ' x)
    (k : ∀ H1 x ρ1, Tr O H O H1 → Rel F A O σ H1 ρ1 → g x ρ1 = some (r, ρ') → K x H1) : t σ H K := by
  unfold M.bind at hf
  split at hf
  · rename_i a ρ1 q
    exact hs F A O σ H ρ _ _ K rel q fun H' t rel' => k H' a ρ1 t rel' hf
  · rename_i e ρ1 q
    cases hf
    exact hs F A O σ H ρ _ _ K rel q (pe e rfl)
  · cases hf
theorem SndA.then {t : TA} {f : M (List R)} {g : List R → M β} {K : List V → Hp → Prop} (hs : SndA mg W t f) (rel : Rel F A O σ H ρ) (hf : M.bind f g ρ = some (r, ρ')) (pe : ∀ x, r = .error x → XPost mg W F A O σ H ρ' x)
    (k : ∀ H1 vs x ρ1, Tr O H O H1 → Rel F A O σ H1 ρ1 → RBs F A O H1 vs x → g x ρ1 = some (r, ρ') → K vs H1) : t σ H K := by
  unfold M.bind at hf
  split at hf
  · rename_i a ρ1 q
    exact hs F A O σ H ρ _ _ K rel q fun H' vs t rel' rb => k H' vs a ρ1 t rel' rb hf
  · rename_i e ρ1 q
    cases hf
    exact hs F A O σ H ρ _ _ K rel q (pe e rfl)
  · cases hf
theorem PostE.err {r : Except Exc R} (h : PostE mg W F A O σ H ρ' Q r) : ∀ x, r = .error x → XPost mg W F A O σ H ρ' x := fun x e => by subst e; exact h
end

structure Ev (X : Cx) (W : WX) (e : Expr) (t : TE) (f : M R) : Prop where
  pe : PE X e t
  sd : Snd X.mg W t f
structure EvT (X : Cx) (W : WX) (e : Expr) (t : TT) (f : M Bool) : Prop where
  pe : PT X e t
  sd : SndT X.mg W t f
structure EvW (X : Cx) (W : WX) (e : Expr) (t : TT) (f : M Bool) : Prop where
  pe : PW X e t
  sd : SndT X.mg W t f
structure EvA (X : Cx) (W : WX) (es : List Expr) (t : TA) (f : M (List R)) : Prop where
  pe : PA X es t
  sd : SndA X.mg W t f

/-! ### what a primitive gives -/
def PP (B : Addr → Prop) (H : Hp) (Q : VK) : R → Prop
  | .val d => ∀ H' v, Same H H' → Rp B H' v d → Q v H'
  | .slot _ => False
  | .fresh d => ∀ p o, H p = none → OR B H o d → Q (.ref p) (upd H p o)
theorem PP.post {mg : Str → Option Value} {W : WX} {F : Addr → Prop} {A : Nat → Option Addr} {O : List (Option Addr)} {σ : St} {H : Hp} {ρ' : DEnv} {Q : VK} {z : R} (hz : ∀ i, z ≠ .slot i) (rel : Rel F A O σ H ρ') (h : PostE mg W F A O σ H ρ' Q (.ok z)) : PP (Bad F A O) H Q z := by
  cases z with
  | val d => exact fun H' v s rp => h H' v (Tr.same s) (rel.grow s) rp
  | slot i => exact absurd rfl (hz i)
  | fresh d => exact fun p o n ob => h H p o Tr.refl rel n ob
/-- two operands -/
def Ad2 (r : R2) (g : D → D → Option R) : Prop := ∀ B H v w x y z Q, (∀ p, H p = none → ¬ B p) → Rb B H v x → Rb B H w y → g x y = some z → (∀ i, z ≠ .slot i) ∧ (PP B H Q z → r v w H Q)
def fBin (g : D → D → Option R) (fa fb : M R) : M R := fa.bind fun x => fb.bind fun y => fun ρ => match deref ρ x, deref ρ y with
  | some dx, some dy => M.of (g dx dy) ρ
  | _, _ => none
theorem snd_bin {mg : Str → Option Value} {W : WX} {r : R2} {g : D → D → Option R} {ta tb : TE} {fa fb : M R} (ad : Ad2 r g) (ha : Snd mg W ta fa) (hb : Snd mg W tb fb) : Snd mg W (tOp r ta tb) (fBin g fa fb) := by
  intro F A O σ H ρ rr ρ' Q rel hf post
  refine ha.then rel hf post.err fun H1 v x ρ1 t1 rel1 rb1 hf1 => ?_
  have post1 := post.tr t1
  refine hb.then rel1 hf1 post1.err fun H2 w y ρ2 t2 rel2 rb2 hf2 => ?_
  have post2 := post1.tr t2
  split at hf2
  · rename_i dx dy e1 e2
    unfold M.of at hf2
    split at hf2
    · rename_i z e3
      cases hf2
      obtain ⟨h1, h2⟩ := ad _ H2 v w dx dy z Q (fun _ n => rel2.good n) ((rb1.tr t2).rb rel2 e1) (rb2.rb rel2 e2) e3
      exact h2 (PP.post h1 rel2 post2)
    · cases hf2
  · cases hf2
theorem ev_bin {X : Cx} {W : WX} {a b : Expr} {ta tb : TE} {fa fb : M R} {op : Operator} {pos : Pos} {r : R2} {g : D → D → Option R} (ho : OpR X (binaryOp op) r) (ad : Ad2 r g) (ha : Ev X W a ta fa) (hb : Ev X W b tb fb) : Ev X W (.BinOp a op b pos) (tOp r ta tb) (fBin g fa fb) :=
  ⟨pe_op ho ha.pe hb.pe, snd_bin ad ha.sd hb.sd⟩
theorem ev_cmp {X : Cx} {W : WX} {a b : Expr} {ta tb : TE} {fa fb : M R} {op : CmpOp} {pos : Pos} {r : R2} {g : D → D → Option R} (ho : OpR X (compareOp op) r) (ad : Ad2 r g) (ha : Ev X W a ta fa) (hb : Ev X W b tb fb) (hm : behindInMarks op b = false) : Ev X W (.Compare a [op] [b] pos) (tOp r ta tb) (fBin g fa fb) :=
  ⟨pe_cmpR ho ha.pe hb.pe hm, snd_bin ad ha.sd hb.sd⟩
end L3

namespace L3
open PySem L2
variable [Md] [Tb]
/-- a new tuple is laid -/
theorem tup_laid {X : Cx} {pins : List (Addr × Obj)} {σ : St} {H : Hp} {s : Shared} {xs : List V} {us : List Value} (I : Inv X pins σ H s) (r : Vals xs us) (z : xs.length ≤ sizeLine) :
    ∃ o, OT o xs ∧ Inv X pins σ (upd H s.heap.objs.size o) { s with heap := s.heap.push { cls := .type "tuple", data := .seq us.toArray } } := by
  cases h : Md.fz with
  | false => exact ⟨.tup xs, .inl ⟨h, rfl⟩, I.laid (t' := s.toks) (fun b u e => Heap.get?_push_of_some _ e) (Nat.le_refl _) ⟨z, us, r, ⟨_, Heap.get?_push_size _ rfl, rfl, _, rfl⟩⟩⟩
  | true =>
    refine ⟨.frz { cls := .type "tuple", data := .seq us.toArray } (.tup xs), .inr ⟨h, _, rfl, rfl⟩, I.laid (t' := s.toks) (fun b u e => Heap.get?_push_of_some _ e) (Nat.le_refl _) ?_⟩
    exact ⟨Heap.get?_push_size _ rfl, z, us, r, ⟨_, Heap.get?_push_size _ rfl, rfl, _, rfl⟩⟩
def tTupM (t : TA) : TE := fun σ H Q => t σ H fun vs H1 => vs.length ≤ sizeLine ∧ ∀ p o, OT o vs → H1 p = none → Q (.ref p) (upd H1 p o)
theorem pe_tupM {X : Cx} {es : List Expr} {t : TA} {k : Nat} {pos : Pos} (h : PA X es t) : PE X (.Tuple es k pos) (tTupM t) := by
  refine ⟨fun pins s σ H Q I hq => ?_⟩
  refine wpAny_Tuple_spliced (thn (h.run pos pins s σ H _ I hq) fun us s1 ⟨xs, H1, I1, r, z, q⟩ => ⟨by rw [← r.length]; exact z, ?_⟩)
  have hf : H1 s1.heap.objs.size = none := I1.hok.fresh (Nat.le_refl _)
  obtain ⟨o, ot, I2⟩ := tup_laid I1 r z
  exact ⟨.ref s1.heap.objs.size, _, I2, rfl, q _ o ot hf⟩
section
variable {X : Cx} {W : WX} {mg : Str → Option Value}
/-! ### names, constants -/
def fVar (i : Nat) : M R := fun ρ => match ρ[i]? with
  | some (some (.sh d)) => some (.ok (.val d), ρ)
  | some (some (.ow _)) => some (.ok (.slot i), ρ)
  | some (some (.io _)) => some (.ok (.slot i), ρ)
  | _ => none
def fC (d : D) : M R := M.pure (.val d)
theorem snd_var {i : Nat} : Snd mg W (tVar i) (fVar i) := by
  intro F A O σ H ρ r ρ' Q rel hf post
  unfold fVar at hf
  split at hf
  · rename_i d e
    cases hf
    obtain ⟨v, e1, e2⟩ := rel.slot i _ e
    exact ⟨v, e1, post H v Tr.refl rel e2⟩
  · rename_i d e
    cases hf
    obtain ⟨p, o, e1, _, _, e2, _⟩ := rel.slot i _ e
    exact ⟨.ref p, e2, post H p Tr.refl rel e1⟩
  · rename_i d e
    cases hf
    obtain ⟨p, o, e1, _, e2, _⟩ := rel.slot i _ e
    exact ⟨.ref p, e2, post H p Tr.refl rel e1⟩
  · cases hf
theorem ev_var (i : Nat) {x : Str} {pos : Pos} (hN : X.N[i]? = some x := by rfl) (hv : Vis X.env.scope x := by first | exact Or.inl rfl | exact Or.inr (Or.inl rfl) | exact Or.inr (Or.inr rfl)) (hd : (x == ("__debug__" : Str)) = false := by decide)
    (hcd : (x == ("__classdict__" : Str)) = false := by decide) : Ev X W (.Name x pos) (tVar i) (fVar i) := ⟨pe_var hN hv hd hcd, snd_var⟩
theorem snd_c {v : V} {d : D} (h : ∀ B H, Rp B H v d) : Snd mg W (tC v) (fC d) := by
  intro F A O σ H ρ r ρ' Q rel hf post
  cases hf
  exact post H v Tr.refl rel (h _ _)
theorem ev_int {i : Int} {j : Nat} {pos : Pos} : Ev X W (.Constant (.int i) j pos) (tC (.int i)) (fC (.int i)) := ⟨pe_int, snd_c fun _ _ => .int i⟩
theorem ev_bl {i : Bool} {j : Nat} {pos : Pos} : Ev X W (.Constant (.bool i) j pos) (tC (.bl i)) (fC (.bl i)) := ⟨pe_bl, snd_c fun _ _ => .bl i⟩
theorem ev_str {i : Str} {j : Nat} {pos : Pos} : Ev X W (.Constant (.str i) j pos) (tC (.str i)) (fC (.str i)) := ⟨pe_str, snd_c fun _ _ => .str i⟩
theorem ev_non {j : Nat} {pos : Pos} : Ev X W (.Constant .none j pos) (tC .non) (fC .non) := ⟨pe_non, snd_c fun _ _ => .non⟩
theorem ev_glob {x : Str} {pos : Pos} {u : Value} {v : V} {d : D} (hg : Gl X x) (hm : X.mg x = some u) (r : RelV v u) (h : ∀ B H, Rp B H v d) (hd : (x == ("__debug__" : Str)) = false := by decide) : Ev X W (.Name x pos) (tC v) (fC d) := ⟨pe_glob hg hm r hd, snd_c h⟩

/-! ### tests -/
def fTest (f : M R) : M Bool := f.bind fun r ρ => match deref ρ r with
  | some (.bl b) => some (.ok b, ρ)
  | _ => none
theorem snd_test {t : TE} {f : M R} (h : Snd mg W t f) : SndT mg W (tTest t) (fTest f) := by
  intro F A O σ H ρ r ρ' Q rel hf post
  refine h.then rel hf (fun x e => by subst e; exact post) fun H1 v x ρ1 t1 rel1 rb hf1 => ?_
  split at hf1
  · rename_i b e
    cases hf1
    exact ⟨b, (rb.rb rel1 e).bl, post H1 t1 rel1⟩
  · cases hf1
theorem ev_cmpT {a b : Expr} {ta tb : TE} {fa fb : M R} {op : CmpOp} {pos : Pos} {r : R2} {g : D → D → Option R} (ho : OpR X (compareOp op) r) (ad : Ad2 r g) (ha : Ev X W a ta fa) (hb : Ev X W b tb fb) (hm : behindInMarks op b = false) : EvT X W (.Compare a [op] [b] pos) (tTest (tOp r ta tb)) (fTest (fBin g fa fb)) :=
  ⟨pt_cmpR ho ha.pe hb.pe hm, snd_test (snd_bin ad ha.sd hb.sd)⟩
def truD : D → Option Bool
  | .non => some false
  | .bl b => some b
  | .int i => some (i != 0)
  | .str x => if x.length ≤ sizeLine then some ((x.length : Int) != 0) else none
  | .lst xs => some (!xs.isEmpty)
  | .tup xs => some (!xs.isEmpty)
  | .dK xs => some (!xs.isEmpty)
  | .dT _ => none
def fTruth (f : M R) : M Bool := f.bind fun r ρ => match deref ρ r with
  | some d => M.of (truD d) ρ
  | _ => none
theorem isEmpty_len {α β : Type} {xs : List α} {ys : List β} (h : xs.length = ys.length) : (!xs.isEmpty) = !ys.isEmpty := by
  cases xs <;> cases ys <;> first | rfl | cases h
theorem RpK.length {B : Addr → Prop} {H : Hp} : ∀ {vs : List (Key × V)} {ds : List (Key × D)}, RpK B H vs ds → vs.length = ds.length
  | _, _, .nil => rfl
  | _, _, .cons _ t => congrArg (· + 1) (RpK.length t)
theorem RpT.length {B : Addr → Prop} {H : Hp} : ∀ {vs : List (List Key × V)} {ds : List (List Key × D)}, RpT B H vs ds → vs.length = ds.length
  | _, _, .nil => rfl
  | _, _, .cons _ t => congrArg (· + 1) (RpT.length t)
theorem tru_of {K : PySem.W.Frag} {B : Addr → Prop} {H : Hp} {v : V} {d : D} {k : Bool} (rb : Rb B H v d) (e : truD d = some k) : TruV K v H k := by
  cases d with
  | non => cases e; rw [rb.non]; rfl
  | bl b => cases e; rw [rb.bl]; rfl
  | int b => cases e; rw [rb.int]; rfl
  | str b =>
    rw [rb.str]
    have e : (if b.length ≤ sizeLine then some ((b.length : Int) != 0) else none) = some k := e
    split at e
    · cases e; exact ⟨by assumption, rfl⟩
    · cases e
  | lst xs =>
    cases e
    obtain ⟨a, vs, rfl, e, q⟩ := rb.lst
    exact .inl ⟨vs, SqL.of e, (isEmpty_len q.length).symm⟩
  | tup xs =>
    cases e
    obtain ⟨a, o, vs, rfl, e, t, q, _⟩ := rb.tup
    exact .inr (.inl ⟨vs, t.sq e, (isEmpty_len q.length).symm⟩)
  | dK xs =>
    cases e
    obtain ⟨a, vs, rfl, e, q⟩ := rb.dK
    exact .inr (.inr ⟨vs, e, (isEmpty_len q.length).symm⟩)
  | dT xs => cases e
theorem ev_truth {a : Expr} {t : TE} {f : M R} (h : Ev X W a t f) (he : ∀ whole, isTrue a X.env whole = (do let v ← whole; standAt a.pos; holding [v] (truthy v)) := by intro _; rfl) : EvT X W a (fun σ H Q => t σ H fun x H' => ∃ k, TruV X.K x H' k ∧ Q k H') (fTruth f) := by
  refine ⟨pt_truth h.pe he, ?_⟩
  intro F A O σ H ρ r ρ' Q rel hf post
  refine h.sd.then rel hf (fun x e => by subst e; exact post) fun H1 v x ρ1 t1 rel1 rb hf1 => ?_
  split at hf1
  · rename_i d e
    unfold M.of at hf1
    split at hf1
    · rename_i k e2
      cases hf1
      exact ⟨k, tru_of (rb.rb rel1 e) e2, post H1 t1 rel1⟩
    · cases hf1
  · cases hf1
def fAnd (f g : M Bool) : M Bool := f.bind fun b => if b = true then g else M.pure false
def fOr (f g : M Bool) : M Bool := f.bind fun b => if b = true then M.pure true else g
def fNot (f : M Bool) : M Bool := f.bind fun b => M.pure (!b)
theorem snd_and {t u : TT} {f g : M Bool} (h : SndT mg W t f) (h' : SndT mg W u g) : SndT mg W (tAnd t u) (fAnd f g) := by
  intro F A O σ H ρ r ρ' Q rel hf post
  refine h.then rel hf (fun x e => by subst e; exact post) fun H1 x ρ1 t1 rel1 hf1 => ?_
  cases x with
  | true =>
    refine h' F A O σ H1 ρ1 r ρ' Q rel1 hf1 ?_
    cases r with
    | ok b => exact fun H' tr => post H' (t1.trans tr)
    | error x => exact XPost.tr post t1
  | false =>
    cases hf1
    exact post H1 t1 rel1
theorem snd_or {t u : TT} {f g : M Bool} (h : SndT mg W t f) (h' : SndT mg W u g) : SndT mg W (tOr t u) (fOr f g) := by
  intro F A O σ H ρ r ρ' Q rel hf post
  refine h.then rel hf (fun x e => by subst e; exact post) fun H1 x ρ1 t1 rel1 hf1 => ?_
  cases x with
  | false =>
    refine h' F A O σ H1 ρ1 r ρ' Q rel1 hf1 ?_
    cases r with
    | ok b => exact fun H' tr => post H' (t1.trans tr)
    | error x => exact XPost.tr post t1
  | true =>
    cases hf1
    exact post H1 t1 rel1
theorem snd_not {t : TT} {f : M Bool} (h : SndT mg W t f) : SndT mg W (tNot t) (fNot f) := by
  intro F A O σ H ρ r ρ' Q rel hf post
  refine h.then rel hf (fun x e => by subst e; exact post) fun H1 x ρ1 t1 rel1 hf1 => ?_
  cases hf1
  exact post H1 t1 rel1
theorem EvW.t {e : Expr} {t : TT} {f : M Bool} (h : EvW X W e t f) : EvT X W e t f := ⟨h.pe.pt, h.sd⟩
theorem evw_and1 {a : Expr} {pos : Pos} {t : TT} {f : M Bool} (h : EvT X W a t f) : EvW X W (.BoolOp .And [a] pos) t f := ⟨pw_and1 h.pe, h.sd⟩
theorem evw_or1 {a : Expr} {pos : Pos} {t : TT} {f : M Bool} (h : EvT X W a t f) : EvW X W (.BoolOp .Or [a] pos) t f := ⟨pw_or1 h.pe, h.sd⟩
theorem evw_and {a b : Expr} {rest : List Expr} {pos : Pos} {t u : TT} {f g : M Bool} (h : EvT X W a t f) (h' : EvW X W (.BoolOp .And (b :: rest) pos) u g) : EvW X W (.BoolOp .And (a :: b :: rest) pos) (tAnd t u) (fAnd f g) := ⟨pw_and h.pe h'.pe, snd_and h.sd h'.sd⟩
theorem evw_or {a b : Expr} {rest : List Expr} {pos : Pos} {t u : TT} {f g : M Bool} (h : EvT X W a t f) (h' : EvW X W (.BoolOp .Or (b :: rest) pos) u g) : EvW X W (.BoolOp .Or (a :: b :: rest) pos) (tOr t u) (fOr f g) := ⟨pw_or h.pe h'.pe, snd_or h.sd h'.sd⟩
theorem evt_not {a : Expr} {pos : Pos} {t : TT} {f : M Bool} (h : EvT X W a t f) : EvT X W (.UnaryOp .Not a pos) (tNot t) (fNot f) := ⟨pt_not h.pe, snd_not h.sd⟩
/-- a if c else b -/
def fIf (c : M Bool) (f g : M R) : M R := c.bind fun b => if b = true then f else g
theorem ev_if {c a b : Expr} {pos : Pos} {tc : TT} {ta tb : TE} {fc : M Bool} {fa fb : M R} (hc : EvT X W c tc fc) (ha : Ev X W a ta fa) (hb : Ev X W b tb fb) : Ev X W (.IfExp c a b pos) (tIf tc ta tb) (fIf fc fa fb) := by
  refine ⟨pe_ifExp hc.pe ha.pe hb.pe, ?_⟩
  intro F A O σ H ρ r ρ' Q rel hf post
  refine hc.sd.then rel hf post.err fun H1 x ρ1 t1 rel1 hf1 => ?_
  cases x with
  | true => exact ha.sd F A O σ H1 ρ1 r ρ' Q rel1 hf1 (post.tr t1)
  | false => exact hb.sd F A O σ H1 ρ1 r ρ' Q rel1 hf1 (post.tr t1)
/-- and, or, not of bools, as values -/
def fAndV (f g : M R) : M R := f.bind fun r ρ => match deref ρ r with
  | some (.bl true) => g ρ
  | some (.bl false) => some (.ok (.val (.bl false)), ρ)
  | _ => none
def fOrV (f g : M R) : M R := f.bind fun r ρ => match deref ρ r with
  | some (.bl false) => g ρ
  | some (.bl true) => some (.ok (.val (.bl true)), ρ)
  | _ => none
def fNotV (f : M R) : M R := f.bind fun r ρ => match deref ρ r with
  | some (.bl b) => some (.ok (.val (.bl (!b))), ρ)
  | _ => none
theorem ev_one {op : BoolOp} {a : Expr} {pos : Pos} {t : TE} {f : M R} (h : Ev X W a t f) : Ev X W (.BoolOp op [a] pos) t f := ⟨pe_one h.pe, h.sd⟩
theorem ev_and {a b : Expr} {rest : List Expr} {pos : Pos} {ta tb : TE} {fa fb : M R} (ha : Ev X W a ta fa) (hb : Ev X W (.BoolOp .And (b :: rest) pos) tb fb) : Ev X W (.BoolOp .And (a :: b :: rest) pos) (tAndV ta tb) (fAndV fa fb) := by
  refine ⟨pe_and ha.pe hb.pe, ?_⟩
  intro F A O σ H ρ r ρ' Q rel hf post
  refine ha.sd.then rel hf post.err fun H1 v x ρ1 t1 rel1 rb hf1 => ?_
  split at hf1
  · rename_i e
    exact ⟨true, (rb.rb rel1 e).bl, iteT (hb.sd F A O σ H1 ρ1 r ρ' Q rel1 hf1 (post.tr t1))⟩
  · rename_i e
    cases hf1
    exact ⟨false, (rb.rb rel1 e).bl, iteF (post H1 _ t1 rel1 (.bl false))⟩
  · cases hf1
theorem ev_or {a b : Expr} {rest : List Expr} {pos : Pos} {ta tb : TE} {fa fb : M R} (ha : Ev X W a ta fa) (hb : Ev X W (.BoolOp .Or (b :: rest) pos) tb fb) : Ev X W (.BoolOp .Or (a :: b :: rest) pos) (tOrV ta tb) (fOrV fa fb) := by
  refine ⟨pe_or ha.pe hb.pe, ?_⟩
  intro F A O σ H ρ r ρ' Q rel hf post
  refine ha.sd.then rel hf post.err fun H1 v x ρ1 t1 rel1 rb hf1 => ?_
  split at hf1
  · rename_i e
    exact ⟨false, (rb.rb rel1 e).bl, iteF (hb.sd F A O σ H1 ρ1 r ρ' Q rel1 hf1 (post.tr t1))⟩
  · rename_i e
    cases hf1
    exact ⟨true, (rb.rb rel1 e).bl, iteT (post H1 _ t1 rel1 (.bl true))⟩
  · cases hf1
theorem ev_not {a : Expr} {pos : Pos} {ta : TE} {fa : M R} (ha : Ev X W a ta fa) : Ev X W (.UnaryOp .Not a pos) (tNotV ta) (fNotV fa) := by
  refine ⟨pe_not ha.pe, ?_⟩
  intro F A O σ H ρ r ρ' Q rel hf post
  refine ha.sd.then rel hf post.err fun H1 v x ρ1 t1 rel1 rb hf1 => ?_
  split at hf1
  · rename_i b e
    cases hf1
    exact ⟨b, (rb.rb rel1 e).bl, post H1 _ t1 rel1 (.bl _)⟩
  · cases hf1
/-- a < b < c -/
def fChain (g g' : D → D → Option R) (fa fb fc : M R) : M R := fa.bind fun x => fb.bind fun y => fun ρ => match deref ρ x, deref ρ y with
  | some dx, some dy => match g dx dy with
    | some (.val (.bl true)) => (fc.bind fun z ρ2 => match deref ρ2 y, deref ρ2 z with
      | some dy', some dz => M.of (g' dy' dz) ρ2
      | _, _ => none) ρ
    | some (.val (.bl false)) => some (.ok (.val (.bl false)), ρ)
    | _ => none
  | _, _ => none
theorem snd_chain {r r' : R2} {g g' : D → D → Option R} {ta tb tc : TE} {fa fb fc : M R} (ad : Ad2 r g) (ad' : Ad2 r' g') (ha : Snd mg W ta fa) (hb : Snd mg W tb fb) (hc : Snd mg W tc fc) : Snd mg W (tChain r r' ta tb tc) (fChain g g' fa fb fc) := by
  intro F A O σ H ρ rr ρ' Q rel hf post
  refine ha.then rel hf post.err fun H1 v x ρ1 t1 rel1 rb1 hf1 => ?_
  have post1 := post.tr t1
  refine hb.then rel1 hf1 post1.err fun H2 w y ρ2 t2 rel2 rb2 hf2 => ?_
  have post2 := post1.tr t2
  split at hf2
  · rename_i dx dy e1 e2
    split at hf2
    · rename_i e3
      obtain ⟨_, h2⟩ := ad _ H2 v w dx dy _ _ (fun _ n => rel2.good n) ((rb1.tr t2).rb rel2 e1) (rb2.rb rel2 e2) e3
      refine h2 fun H3 z s3 rp3 => ⟨true, Rb.bl (.inl rp3), iteT ?_⟩
      have post3 := post2.tr (Tr.same s3)
      refine hc.then (rel2.grow s3) hf2 post3.err fun H4 u z ρ4 t4 rel4 rb4 hf4 => ?_
      have post4 := post3.tr t4
      split at hf4
      · rename_i dy' dz e4 e5
        unfold M.of at hf4
        split at hf4
        · rename_i q e6
          cases hf4
          obtain ⟨h1, h2⟩ := ad' _ H4 w u dy' dz q Q (fun _ n => rel4.good n) (((rb2.tr (Tr.same s3)).tr t4).rb rel4 e4) (rb4.rb rel4 e5) e6
          exact h2 (PP.post h1 rel4 post4)
        · cases hf4
      · cases hf4
    · rename_i e3
      cases hf2
      obtain ⟨_, h2⟩ := ad _ H2 v w dx dy _ _ (fun _ n => rel2.good n) ((rb1.tr t2).rb rel2 e1) (rb2.rb rel2 e2) e3
      exact h2 fun H3 z s3 rp3 => ⟨false, Rb.bl (.inl rp3), iteF ((post2.tr (Tr.same s3)) H3 _ Tr.refl (rel2.grow s3) (.bl false))⟩
    · cases hf2
  · cases hf2
theorem ev_chain {a b c : Expr} {ta tb tc : TE} {fa fb fc : M R} {op op' : CmpOp} {pos : Pos} {r r' : R2} {g g' : D → D → Option R} (ho : OpR X (compareOp op) r) (ho' : OpR X (compareOp op') r') (ad : Ad2 r g) (ad' : Ad2 r' g') (ha : Ev X W a ta fa) (hb : Ev X W b tb fb) (hc : Ev X W c tc fc) (hm : lastMarks [op, op'] [b, c] = false := by rfl) : Ev X W (.Compare a [op, op'] [b, c] pos) (tChain r r' ta tb tc) (fChain g g' fa fb fc) :=
  ⟨pe_chain ho ho' ha.pe hb.pe hc.pe hm, snd_chain ad ad' ha.sd hb.sd hc.sd⟩
theorem ev_chainT {a b c : Expr} {ta tb tc : TE} {fa fb fc : M R} {op op' : CmpOp} {pos : Pos} {r r' : R2} {g g' : D → D → Option R} (ho : OpR X (compareOp op) r) (ho' : OpR X (compareOp op') r') (ad : Ad2 r g) (ad' : Ad2 r' g') (ha : Ev X W a ta fa) (hb : Ev X W b tb fb) (hc : Ev X W c tc fc) (hm : lastMarks [op, op'] [b, c] = false := by rfl) : EvT X W (.Compare a [op, op'] [b, c] pos) (tTest (tChain r r' ta tb tc)) (fTest (fChain g g' fa fb fc)) :=
  ⟨pt_chain ho ho' ha.pe hb.pe hc.pe hm, snd_test (snd_chain ad ad' ha.sd hb.sd hc.sd)⟩
/-! ### argument lists, displays -/
def fNil : M (List R) := M.pure []
def fCons (f : M R) (g : M (List R)) : M (List R) := f.bind fun r => g.bind fun rs => M.pure (r :: rs)
theorem RBs.tr {F : Addr → Prop} {A : Nat → Option Addr} {O : List (Option Addr)} {H H' : Hp} : ∀ {vs : List V} {rs : List R}, RBs F A O H vs rs → Tr O H O H' → RBs F A O H' vs rs
  | _, _, .nil, _ => .nil
  | _, _, .cons r q, t => .cons (r.tr t) (q.tr t)
theorem eva_nil : EvA X W [] tNil fNil := ⟨pa_nil, fun F A O σ H ρ r ρ' Q rel hf post => by cases hf; exact post H [] Tr.refl rel .nil⟩
theorem eva_cons {e : Expr} {es : List Expr} {te : TE} {t : TA} {f : M R} {g : M (List R)} (h : Ev X W e te f) (h' : EvA X W es t g) (hs : starEach (e :: es) X.env = (false, eval e X.env) :: starEach es X.env := by rfl) : EvA X W (e :: es) (tCons te t) (fCons f g) := by
  refine ⟨pa_cons h.pe h'.pe hs, ?_⟩
  intro F A O σ H ρ r ρ' Q rel hf post
  refine h.sd.then rel hf (fun x e => by subst e; exact post) fun H1 v x ρ1 t1 rel1 rb hf1 => ?_
  refine h'.sd.then rel1 hf1 (fun x e => by subst e; exact XPost.tr post t1) fun H2 vs xs ρ2 t2 rel2 rbs hf2 => ?_
  cases hf2
  exact post H2 _ (t1.trans t2) rel2 (.cons (rb.tr t2) rbs)
def stabs : List R → Option (List D)
  | [] => some []
  | r :: rs => match stab r, stabs rs with
    | some d, some ds => some (d :: ds)
    | _, _ => none
def derefs (ρ : DEnv) : List R → Option (List D)
  | [] => some []
  | r :: rs => match deref ρ r, derefs ρ rs with
    | some d, some ds => some (d :: ds)
    | _, _ => none
theorem RB.stab {F : Addr → Prop} {A : Nat → Option Addr} {O : List (Option Addr)} {H : Hp} {v : V} {r : R} {d : D} (h : RB F A O H v r) (e : stab r = some d) : Rp (Bad F A O) H v d := by
  cases r with
  | val d' => cases e; exact h
  | fresh d' => cases e; exact h
  | slot i => cases e
theorem RBs.stabs {F : Addr → Prop} {A : Nat → Option Addr} {O : List (Option Addr)} {H : Hp} : ∀ {vs : List V} {rs : List R} {ds : List D}, RBs F A O H vs rs → stabs rs = some ds → RpAll (Bad F A O) H vs ds
  | _, _, _, .nil, e => by cases e; exact .nil
  | _, _, _, .cons r q, e => by
    unfold L3.stabs at e
    split at e
    · rename_i e1 e2
      cases e
      exact .cons (r.stab e1) (q.stabs e2)
    · cases e
inductive RbAll (B : Addr → Prop) (H : Hp) : List V → List D → Prop
  | nil : RbAll B H [] []
  | cons {v : V} {d : D} {vs : List V} {ds : List D} : Rb B H v d → RbAll B H vs ds → RbAll B H (v :: vs) (d :: ds)
theorem RBs.derefs {F : Addr → Prop} {A : Nat → Option Addr} {O : List (Option Addr)} {σ : St} {H : Hp} {ρ : DEnv} (rel : Rel F A O σ H ρ) : ∀ {vs : List V} {rs : List R} {ds : List D}, RBs F A O H vs rs → derefs ρ rs = some ds → RbAll (Bad F A O) H vs ds
  | _, _, _, .nil, e => by cases e; exact .nil
  | _, _, _, .cons r q, e => by
    unfold L3.derefs at e
    split at e
    · rename_i e1 e2
      cases e
      exact .cons (r.rb rel e1) (RBs.derefs rel q e2)
    · cases e
def fTup (f : M (List R)) : M R := f.bind fun rs ρ => match stabs rs with
  | some ds => if ds.length ≤ sizeLine then some (.ok (.val (.tup ds)), ρ) else none
  | none => none
def fLst (f : M (List R)) : M R := f.bind fun rs ρ => match stabs rs with
  | some ds => if ds.length ≤ sizeLine then some (.ok (.fresh (.lst ds)), ρ) else none
  | none => none
theorem ev_tup {es : List Expr} {t : TA} {f : M (List R)} {k : Nat} {pos : Pos} (h : EvA X W es t f) : Ev X W (.Tuple es k pos) (tTupM t) (fTup f) := by
  refine ⟨pe_tupM h.pe, ?_⟩
  intro F A O σ H ρ r ρ' Q rel hf post
  refine h.sd.then rel hf post.err fun H1 vs x ρ1 t1 rel1 rb hf1 => ?_
  split at hf1
  · rename_i ds e
    split at hf1
    · cases hf1
      have q := rb.stabs e
      refine ⟨by rw [q.length]; assumption, fun p o ot hp => ?_⟩
      have s := same_new hp o
      exact post _ _ (t1.trans (Tr.same s)) (rel1.grow s) (.ob upd_same (rel1.good hp) (.tup ot (q.tr (Tr.same s))))
    · cases hf1
  · cases hf1
theorem ev_lst {es : List Expr} {t : TA} {f : M (List R)} {pos : Pos} (h : EvA X W es t f) : Ev X W (.List es pos) (tLst t) (fLst f) := by
  refine ⟨pe_lst h.pe, ?_⟩
  intro F A O σ H ρ r ρ' Q rel hf post
  refine h.sd.then rel hf post.err fun H1 vs x ρ1 t1 rel1 rb hf1 => ?_
  split at hf1
  · rename_i ds e
    split at hf1
    · cases hf1
      have q := rb.stabs e
      exact ⟨by rw [q.length]; assumption, fun p hp => post _ p _ t1 rel1 hp (.lst q)⟩
    · cases hf1
  · cases hf1
theorem ev_dnewK {pos : Pos} : Ev X W (.Dict [] [] pos) tDNewK (M.pure (.fresh (.dK []))) :=
  ⟨pe_dnewK, fun F A O σ H ρ r ρ' Q rel hf post => by cases hf; exact fun p hp => post H p _ Tr.refl rel hp (.dK .nil)⟩
theorem ev_dnewT {pos : Pos} : Ev X W (.Dict [] [] pos) tDNewT (M.pure (.fresh (.dT []))) :=
  ⟨pe_dnewT, fun F A O σ H ρ r ρ' Q rel hf post => by cases hf; exact fun p hp => post H p _ Tr.refl rel hp (.dT .nil)⟩
/-! ### calls of builtins -/
def AdC (r : List V → Hp → VK → Prop) (g : List D → Option R) : Prop := ∀ B H vs ds z Q, (∀ p, H p = none → ¬ B p) → RbAll B H vs ds → g ds = some z → (∀ i, z ≠ .slot i) ∧ (PP B H Q z → r vs H Q)
def fCB (g : List D → Option R) (f : M (List R)) : M R := f.bind fun rs ρ => match derefs ρ rs with
  | some ds => M.of (g ds) ρ
  | none => none
theorem snd_cb {r : List V → Hp → VK → Prop} {g : List D → Option R} {t : TA} {f : M (List R)} (ad : AdC r g) (h : SndA mg W t f) : Snd mg W (tCB r t) (fCB g f) := by
  intro F A O σ H ρ rr ρ' Q rel hf post
  refine h.then rel hf post.err fun H1 vs x ρ1 t1 rel1 rb hf1 => ?_
  split at hf1
  · rename_i ds e
    unfold M.of at hf1
    split at hf1
    · rename_i z e2
      cases hf1
      obtain ⟨h1, h2⟩ := ad _ H1 vs ds z Q (fun _ n => rel1.good n) (RBs.derefs rel1 rb e) e2
      exact h2 (PP.post h1 rel1 (post.tr t1))
    · cases hf1
  · cases hf1
theorem ev_callB {x : Str} {p pos : Pos} {e : Expr} {es : List Expr} {id : String} {r : List V → Hp → VK → Prop} {g : List D → Option R} {t : TA} {f : M (List R)} (hc : CallR X (.builtin id) r) (ad : AdC r g) (hg : Gl X x) (hm : X.mg x = none) (hv : bootBuiltins x = some (.builtin id)) (ha : EvA X W (e :: es) t f)
    (hn : x ≠ "__name__" := by decide) (hdb : (x == ("__debug__" : Str)) = false := by decide) (hs : starEach (e :: es) X.env = (false, eval e X.env) :: starEach es X.env := by rfl) (hpl : (backTo pos (starEach es X.env)).any (·.1) = false := by rfl) : Ev X W (.Call (.Name x p) (e :: es) [] pos) (tCB r t) (fCB g f) :=
  ⟨pe_callB hc hg hm hv ha.pe hn hdb hs hpl, snd_cb ad ha.sd⟩
theorem ev_callTy {x : Str} {p pos : Pos} {e : Expr} {es : List Expr} {T : String} {r : List V → Hp → VK → Prop} {g : List D → Option R} {t : TA} {f : M (List R)} (hc : CallR X (.type T) r) (ad : AdC r g) (hg : Gl X x) (hm : X.mg x = none) (hv : bootBuiltins x = some (.type T)) (ha : EvA X W (e :: es) t f)
    (hn : x ≠ "__name__" := by decide) (hdb : (x == ("__debug__" : Str)) = false := by decide) (hs : starEach (e :: es) X.env = (false, eval e X.env) :: starEach es X.env := by rfl) (hpl : (backTo pos (starEach es X.env)).any (·.1) = false := by rfl) : Ev X W (.Call (.Name x p) (e :: es) [] pos) (tCB r t) (fCB g f) :=
  ⟨pe_callTy hc hg hm hv ha.pe hn hdb hs hpl, snd_cb ad ha.sd⟩
end
end L3

namespace L3
open PySem L2
variable [Md] [Tb]
mutual
def toPy : D → PyData
  | .non => .none
  | .bl b => .bool b
  | .int i => .int i
  | .str x => .str x
  | .lst xs => .list (toPys xs)
  | .tup xs => .tuple (toPys xs)
  | .dK _ => .dict []
  | .dT _ => .dict []
def toPys : List D → List PyData
  | [] => []
  | x :: xs => toPy x :: toPys xs
end
theorem toPys_eq : ∀ xs : List D, toPys xs = xs.map toPy
  | [] => rfl
  | x :: xs => by rw [toPys, toPys_eq xs]; rfl
section
variable {K : PySem.W.Frag} {B : Addr → Prop} {H : Hp}
mutual
theorem dp_of : ∀ {v : V} {d : D}, Rp B H v d → (toPy d).canLay0 = true → Dp K H v (toPy d)
  | _, _, .non, _ => by rw [toPy]; exact .non
  | _, _, .bl b, _ => by rw [toPy]; exact .bl b
  | _, _, .int b, _ => by rw [toPy]; exact .int b
  | _, _, .str b, _ => by rw [toPy]; exact .str b
  | _, _, .ob e _ h, c => dpo_of e h c
theorem dpo_of : ∀ {a : Addr} {o : HO} {d : D}, H a = some o → OR B H o d → (toPy d).canLay0 = true → Dp K H (.ref a) (toPy d)
  | _, _, _, e, .lst r, c => by
    rw [toPy, PyData.canLay0] at c
    rw [toPy]
    exact .lst (SqL.of e) (dpAll_of r c)
  | _, _, _, e, .tup t r, c => by
    rw [toPy, PyData.canLay0] at c
    rw [toPy]
    exact .tup (t.sq e) (dpAll_of r c)
  | _, _, _, e, .dK r, c => by rw [toPy, PyData.canLay0] at c; cases c
  | _, _, _, e, .dT r, c => by rw [toPy, PyData.canLay0] at c; cases c
theorem dpAll_of : ∀ {vs : List V} {ds : List D}, RpAll B H vs ds → PyData.canLayAll0 (toPys ds) = true → DpAll K H vs (toPys ds)
  | _, _, .nil, _ => by rw [toPys]; exact .nil
  | _, _, .cons r t, c => by
    rw [toPys, PyData.canLayAll0, Bool.and_eq_true] at c
    rw [toPys]
    exact .cons (dp_of r c.1) (dpAll_of t c.2)
end
theorem Rb.dp {v : V} {d : D} (h : Rb B H v d) (c : (toPy d).canLay0 = true) : Dp K H v (toPy d) := by
  rcases h with h | ⟨a, o, rfl, e, _, h⟩
  · exact dp_of h c
  · exact dpo_of e h c
end
def shp (d : D) : Bool := SeqAt.shaped (toPy d)
theorem shp_lay {d : D} (h : shp d = true) : (toPy d).canLay0 = true := SeqAt.canLay_of_shaped h
def deq (d e : D) : Bool := PyData.eqv (toPy d) (toPy e)
/-! ### operators -/
def gEq (d e : D) : Option R := if shp d = true ∧ shp e = true then some (.val (.bl (deq d e))) else none
def gNe (d e : D) : Option R := if shp d = true ∧ shp e = true then some (.val (.bl (!deq d e))) else none
theorem ad_eq {K : PySem.W.Frag} : Ad2 (rEqD K) gEq := by
  intro B H v w x y z Q gd rv rw' e
  unfold gEq at e
  split at e
  · rename_i c
    cases e
    exact ⟨(fun i h => by cases h), fun pp => ⟨toPy x, toPy y, rv.dp (shp_lay c.1), rw'.dp (shp_lay c.2), c.1, c.2, pp H _ (fun _ _ q => q) (.bl _)⟩⟩
  · cases e
theorem ad_ne {K : PySem.W.Frag} : Ad2 (rNeD K) gNe := by
  intro B H v w x y z Q gd rv rw' e
  unfold gNe at e
  split at e
  · rename_i c
    cases e
    exact ⟨(fun i h => by cases h), fun pp => ⟨toPy x, toPy y, rv.dp (shp_lay c.1), rw'.dp (shp_lay c.2), c.1, c.2, pp H _ (fun _ _ q => q) (.bl _)⟩⟩
  · cases e
def gI (c : Int → Int → Bool) (g : Int → Int → D) : D → D → Option R
  | .int i, .int j => if c i j = true then some (.val (g i j)) else none
  | _, _ => none
theorem ad_I {C : Int → Int → Prop} {g : Int → Int → V} {c : Int → Int → Bool} {g' : Int → Int → D} (hC : ∀ i j, c i j = true → C i j) (hg : ∀ B H i j, Rp B H (g i j) (g' i j)) : Ad2 (rI C g) (gI c g') := by
  intro B H v w x y z Q gd rv rw' e
  unfold gI at e
  split at e
  · split at e
    · rename_i i j h
      cases e
      exact ⟨(fun i h => by cases h), fun pp => ⟨i, j, rv.int, rw'.int, hC _ _ h, pp H _ (fun _ _ q => q) (hg _ _ _ _)⟩⟩
    · cases e
  · cases e
def gI0 (g : Int → Int → D) : D → D → Option R
  | .int i, .int j => some (.val (g i j))
  | _, _ => none
theorem ad_I0 {g : Int → Int → V} {g' : Int → Int → D} (hg : ∀ B H i j, Rp B H (g i j) (g' i j)) : Ad2 (rI0 g) (gI0 g') := by
  intro B H v w x y z Q gd rv rw' e
  unfold gI0 at e
  split at e
  · rename_i i j
    cases e
    exact ⟨(fun i h => by cases h), fun pp => ⟨i, j, rv.int, rw'.int, pp H _ (fun _ _ q => q) (hg _ _ _ _)⟩⟩
  · cases e
theorem Ad2.or {r r' : R2} {g g' : D → D → Option R} (h : Ad2 r g) (h' : Ad2 r' g') : Ad2 (fun x y H Q => r x y H Q ∨ r' x y H Q) (fun x y => match g x y with | some z => some z | none => g' x y) := by
  intro B H v w x y z Q gd rv rw' e
  simp only at e
  split at e
  · rename_i z' e1
    cases e
    obtain ⟨h1, h2⟩ := h B H v w x y z Q gd rv rw' e1
    exact ⟨h1, fun pp => .inl (h2 pp)⟩
  · obtain ⟨h1, h2⟩ := h' B H v w x y z Q gd rv rw' e
    exact ⟨h1, fun pp => .inr (h2 pp)⟩
/-- the union, with a nicer g -/
theorem Ad2.to {r : R2} {g g' : D → D → Option R} (h : Ad2 r g) (hg : ∀ x y, g x y = g' x y) : Ad2 r g' := by
  intro B H v w x y z Q gd rv rw' e
  exact h B H v w x y z Q gd rv rw' (by rw [hg]; exact e)
def gLt := gI0 fun i j => .bl (decide (i < j))
def gLe := gI0 fun i j => .bl (decide (i ≤ j))
def gGt := gI0 fun i j => .bl (decide (j < i))
def gGe := gI0 fun i j => .bl (decide (j ≤ i))
def gSub := gI0 fun i j => .int (i - j)
theorem ad_lt : Ad2 (rI0 fun i j => .bl (decide (i < j))) gLt := ad_I0 fun _ _ _ _ => .bl _
theorem ad_le : Ad2 (rI0 fun i j => .bl (decide (i ≤ j))) gLe := ad_I0 fun _ _ _ _ => .bl _
theorem ad_gt : Ad2 (rI0 fun i j => .bl (decide (j < i))) gGt := ad_I0 fun _ _ _ _ => .bl _
theorem ad_ge : Ad2 (rI0 fun i j => .bl (decide (j ≤ i))) gGe := ad_I0 fun _ _ _ _ => .bl _
theorem ad_sub : Ad2 (rI0 fun i j => .int (i - j)) gSub := ad_I0 fun _ _ _ _ => .int _
def cDiv (_ j : Int) : Bool := decide (j ≠ 0) && decide (j.natAbs < 1073741824)
def cMod (_ j : Int) : Bool := decide (j ≠ 0)
def cPow (i j : Int) : Bool := decide (0 ≤ j) && (decide (j ≤ 1000) && decide (i.natAbs ≤ 1000))
def cMul (i j : Int) : Bool := (decide (-18446744073709551616 < i) && decide (i < 18446744073709551616)) || (decide (-18446744073709551616 < j) && decide (j < 18446744073709551616))
def gDiv := gI cDiv fun i j => .int (i.fdiv j)
def gMod := gI cMod fun i j => .int (i.fmod j)
def gPow := gI cPow fun i j => .int (i ^ j.toNat)
def gMulI := gI cMul fun i j => .int (i * j)
theorem ad_div : Ad2 (rI CDivN fun i j => .int (i.fdiv j)) gDiv := ad_I (fun i j h => by
  unfold cDiv at h; rw [Bool.and_eq_true] at h; exact ⟨of_decide_eq_true h.1, of_decide_eq_true h.2⟩) fun _ _ _ _ => .int _
theorem ad_mod : Ad2 (rI (fun _ j => j ≠ 0) fun i j => .int (i.fmod j)) gMod := ad_I (fun i j h => of_decide_eq_true h) fun _ _ _ _ => .int _
theorem pow64 : (2 : Nat) ^ 64 = 18446744073709551616 := by decide
theorem pow64i : (2 : Int) ^ 64 = 18446744073709551616 := by decide
theorem ad_pow : Ad2 (rI CPow fun i j => .int (i ^ j.toNat)) gPow := ad_I (fun i j h => by
  unfold cPow at h
  rw [Bool.and_eq_true, Bool.and_eq_true] at h
  have h1 := of_decide_eq_true h.1
  have h2 := of_decide_eq_true h.2.1
  have h3 := of_decide_eq_true h.2.2
  refine ⟨h1, by omega, ?_⟩
  rw [pow64]; omega) fun _ _ _ _ => .int _
theorem ad_mulI : Ad2 (rI CMul fun i j => .int (i * j)) gMulI := ad_I (fun i j h => by
  unfold cMul at h
  rw [Bool.or_eq_true, Bool.and_eq_true, Bool.and_eq_true] at h
  unfold CMul
  rw [pow64i]
  rcases h with h | h
  · exact .inl ⟨of_decide_eq_true h.1, of_decide_eq_true h.2⟩
  · exact .inr ⟨of_decide_eq_true h.1, of_decide_eq_true h.2⟩) fun _ _ _ _ => .int _
end L3

namespace L3
open PySem L2
variable [Md] [Tb]
section
variable {X : Cx} {W : WX} {mg : Str → Option Value}
theorem PP.here {B : Addr → Prop} {H : Hp} {Q : VK} {d : D} (h : PP B H Q (.val d)) {v : V} (r : Rp B H v d) : Q v H := h H v (fun _ _ q => q) r
theorem rp_new {B : Addr → Prop} {H : Hp} {p : Addr} {o : HO} {d : D} (n : H p = none) (nb : ¬ B p) (h : OR B H o d) : Rp B (upd H p o) (.ref p) d :=
  .ob upd_same nb (OR.mono (fun a u nb e _ => ⟨same_new n o a u e, nb⟩) h)
theorem PP.new {B : Addr → Prop} {H : Hp} {Q : VK} {d : D} (h : PP B H Q (.val d)) (gd : ∀ p, H p = none → ¬ B p) {p : Addr} {o : HO} (n : H p = none) (r : OR B H o d) : Q (.ref p) (upd H p o) := h _ _ (same_new n o) (rp_new n (gd p n) r)
theorem noslot (d : D) : ∀ i, R.val d ≠ .slot i := fun i h => by cases h
theorem noslotF (d : D) : ∀ i, R.fresh d ≠ .slot i := fun i h => by cases h
/-! ### + -/
def rCatM (K : PySem.W.Frag) : R2 := fun x y H Q => ∃ a b xs ys, x = .ref a ∧ y = .ref b ∧ SqT K H a xs ∧ SqT K H b ys ∧ xs.length + ys.length ≤ sizeLine ∧
  (xs = [] → Q (.ref b) H) ∧ (xs ≠ [] → ys = [] → Q (.ref a) H) ∧ (xs ≠ [] → ys ≠ [] → ∀ p o, OT o (xs ++ ys) → H p = none → Q (.ref p) (upd H p o))
theorem op_catM : OpR X (binaryOp .Add) (rCatM X.K) := by
  intro pins s σ H x y v u Q I rx ry h
  obtain ⟨a, b, xs, ys, rfl, rfl, ha, hb, hz, q0, q1, q2⟩ := h
  cases rx
  cases ry
  obtain ⟨its, r1, p1, _⟩ := I.tuple ha
  obtain ⟨its2, r2, p2, _⟩ := I.tuple hb
  by_cases hx : xs = []
  · subst hx
    cases r1
    exact cat_tup0 p1 p2 ⟨.ref b, H, I, rfl, q0 rfl⟩
  · refine HT.cat_tup p1 p2 (fun z => hx (r1.nil_iff.mp z)) (fun z => ⟨.ref a, H, I, rfl, q1 hx (r2.nil_iff.mp z)⟩) (fun z => ?_) (by rw [← r1.length, ← r2.length]; exact hz)
    obtain ⟨o, ot, I2⟩ := tup_laid I (r1.append r2) (by rw [List.length_append]; exact hz)
    exact ⟨.ref s.heap.objs.size, _, I2, rfl, q2 hx (fun w => z (r2.nil_iff.mpr w)) _ o ot (I.hok.fresh (Nat.le_refl _))⟩
def rAddU (K : PySem.W.Frag) : R2 := fun x y H Q => (((rI0 fun i j => .int (i + j)) x y H Q ∨ (∃ i j, x = .str i ∧ y = .str j ∧ i.length + j.length ≤ sizeLine ∧ Q (.str (i ++ j)) H)) ∨ rCat x y H Q) ∨ rCatM K x y H Q
theorem op_addU : OpR X (binaryOp .Add) (rAddU X.K) := ((op_add.or op_add_str).or op_cat).or op_catM
def gAdd : D → D → Option R
  | .int i, .int j => some (.val (.int (i + j)))
  | .str i, .str j => if i.length + j.length ≤ sizeLine then some (.val (.str (i ++ j))) else none
  | .lst xs, .lst ys => if xs.length + ys.length ≤ sizeLine then some (.fresh (.lst (xs ++ ys))) else none
  | .tup xs, .tup ys => if xs.length + ys.length ≤ sizeLine then some (.val (.tup (xs ++ ys))) else none
  | _, _ => none
theorem ad_add {K : PySem.W.Frag} : Ad2 (rAddU K) gAdd := by
  intro B H v w x y z Q gd rv rw' e
  unfold gAdd at e
  split at e
  · rename_i i j
    cases e
    exact ⟨noslot _, fun pp => .inl (.inl (.inl ⟨i, j, rv.int, rw'.int, pp.here (.int _)⟩))⟩
  · rename_i i j
    split at e
    · rename_i c
      cases e
      exact ⟨noslot _, fun pp => .inl (.inl (.inr ⟨i, j, rv.str, rw'.str, c, pp.here (.str _)⟩))⟩
    · cases e
  · rename_i xs ys
    split at e
    · rename_i c
      cases e
      obtain ⟨a, vs, rfl, ea, ra⟩ := rv.lst
      obtain ⟨b, ws, rfl, eb, rb⟩ := rw'.lst
      exact ⟨noslotF _, fun pp => .inl (.inr ⟨a, b, vs, ws, rfl, rfl, ea, eb, by rw [ra.length, rb.length]; exact c, fun p hp => pp p _ hp (.lst (ra.append rb))⟩)⟩
    · cases e
  · rename_i xs ys
    split at e
    · rename_i c
      cases e
      obtain ⟨a, oa, vs, rfl, ea, ta, ra, na⟩ := rv.tup
      obtain ⟨b, ob, ws, rfl, eb, tb, rb, nb⟩ := rw'.tup
      refine ⟨noslot _, fun pp => .inr ⟨a, b, vs, ws, rfl, rfl, ta.sq ea, tb.sq eb, by rw [ra.length, rb.length]; exact c, fun h => ?_, fun h h2 => ?_, fun h h2 p o ot hp => ?_⟩⟩
      · subst h
        have hx := ra.length
        cases xs with
        | nil => exact pp.here (.ob eb nb (.tup tb rb))
        | cons _ _ => cases hx
      · subst h2
        have hx := rb.length
        cases ys with
        | nil => rw [List.append_nil] at pp; exact pp.here (.ob ea na (.tup ta ra))
        | cons _ _ => cases hx
      · exact pp.new gd hp (.tup ot (ra.append rb))
    · cases e
  · cases e
/-! ### * -/
theorem RpAll.rep {B : Addr → Prop} {H : Hp} {vs : List V} {ds : List D} (r : RpAll B H vs ds) : ∀ n : Nat, RpAll B H (List.replicate n vs).flatten (List.replicate n ds).flatten
  | 0 => .nil
  | n + 1 => by rw [List.replicate_succ, List.replicate_succ, List.flatten_cons, List.flatten_cons]; exact r.append (RpAll.rep r n)
def rMulU : R2 := fun x y H Q => (rI CMul fun i j => .int (i * j)) x y H Q ∨ rRep x y H Q
theorem op_mulU : OpR X (binaryOp .Mult) rMulU := op_mul.or op_rep
def gMul : D → D → Option R
  | .int i, .int j => if cMul i j = true then some (.val (.int (i * j))) else none
  | .lst xs, .int k => if -1000000 ≤ k ∧ k ≤ 1000000 ∧ xs.length * k.toNat ≤ sizeLine then some (.fresh (.lst (List.replicate k.toNat xs).flatten)) else none
  | _, _ => none
theorem ad_mul : Ad2 rMulU gMul := by
  intro B H v w x y z Q gd rv rw' e
  unfold gMul at e
  split at e
  · rename_i i j
    obtain ⟨h1, h2⟩ := ad_mulI B H v w (.int i) (.int j) z Q gd rv rw' e
    exact ⟨h1, fun pp => .inl (h2 pp)⟩
  · rename_i xs k
    split at e
    · rename_i c
      cases e
      obtain ⟨a, vs, rfl, ea, ra⟩ := rv.lst
      have h1 : (-(2 : Int) ^ 63) = -9223372036854775808 := by decide
      have h2 : ((2 : Int) ^ 63) = 9223372036854775808 := by decide
      refine ⟨noslotF _, fun pp => .inr ⟨a, k, vs, rfl, rw'.int, ea, ?_, ?_, by rw [ra.length]; exact c.2.2, fun p hp => pp p _ hp (.lst (ra.rep _))⟩⟩
      · rw [h1]; omega
      · rw [h2]; omega
    · cases e
  · cases e
/-! ### keys -/
def keyD : D → Option Key
  | .int i => some (.inl i)
  | .str x => some (.inr x)
  | _ => none
def keysD : List D → Option (List Key)
  | [] => some []
  | x :: xs => match keyD x, keysD xs with
    | some k, some ks => some (k :: ks)
    | _, _ => none
theorem Rb.key {B : Addr → Prop} {H : Hp} {v : V} {d : D} {k : Key} (h : Rb B H v d) (e : keyD d = some k) : v = kV k := by
  cases d with
  | int i => cases e; rw [h.int]; rfl
  | str i => cases e; rw [h.str]; rfl
  | _ => cases e
theorem RpAll.keys {B : Addr → Prop} {H : Hp} : ∀ {vs : List V} {ds : List D} {ks : List Key}, RpAll B H vs ds → keysD ds = some ks → vs = ks.map kV
  | _, _, _, .nil, e => by cases e; rfl
  | _, _, _, .cons r t, e => by
    unfold keysD at e
    split at e
    · rename_i e1 e2
      cases e
      rw [Rb.key (.inl r) e1, RpAll.keys t e2]
      rfl
    · cases e
section
variable {κ : Type} [DecidableEq κ]
def valD (kvs : List (κ × D)) (k : κ) : Option D := (kvs.find? fun kv => decide (kv.1 = k)).map (·.2)
def putD (kvs : List (κ × D)) (k : κ) (v : D) : List (κ × D) :=
  if (kvs.any fun kv => decide (kv.1 = k)) = true then kvs.map (fun kv => if kv.1 = k then (kv.1, v) else kv) else kvs ++ [(k, v)]
end
def ORp (B : Addr → Prop) (H : Hp) (o : Option V) : Option D → Prop
  | some d => ∃ v, o = some v ∧ Rp B H v d
  | none => o = none
theorem RpK.val {B : Addr → Prop} {H : Hp} (k : Key) : ∀ {vs : List (Key × V)} {ds : List (Key × D)}, RpK B H vs ds → ORp B H (valV vs k) (valD ds k)
  | _, _, .nil => rfl
  | _, _, .cons (k := j) (v := v) (d := d) (vs := vs) (ds := ds) r t => by
    by_cases h : j = k
    · have e1 : valD ((j, d) :: ds) k = some d := by unfold valD; rw [List.find?_cons_of_pos (by simpa using h)]; rfl
      rw [e1]
      exact ⟨v, valV_pos h, r⟩
    · have e1 : valD ((j, d) :: ds) k = valD ds k := by unfold valD; rw [List.find?_cons_of_neg (by simpa using h)]
      rw [e1, valV_neg (p := (j, v)) h]
      exact RpK.val k t
theorem RpT.val {B : Addr → Prop} {H : Hp} (k : List Key) : ∀ {vs : List (List Key × V)} {ds : List (List Key × D)}, RpT B H vs ds → ORp B H (valV vs k) (valD ds k)
  | _, _, .nil => rfl
  | _, _, .cons (k := j) (v := v) (d := d) (vs := vs) (ds := ds) r t => by
    by_cases h : j = k
    · have e1 : valD ((j, d) :: ds) k = some d := by unfold valD; rw [List.find?_cons_of_pos (by simpa using h)]; rfl
      rw [e1]
      exact ⟨v, valV_pos h, r⟩
    · have e1 : valD ((j, d) :: ds) k = valD ds k := by unfold valD; rw [List.find?_cons_of_neg (by simpa using h)]
      rw [e1, valV_neg (p := (j, v)) h]
      exact RpT.val k t
theorem RpK.snoc {B : Addr → Prop} {H : Hp} {k : Key} {v : V} {d : D} (r : Rp B H v d) : ∀ {vs : List (Key × V)} {ds : List (Key × D)}, RpK B H vs ds → RpK B H (vs ++ [(k, v)]) (ds ++ [(k, d)])
  | _, _, .nil => .cons r .nil
  | _, _, .cons q t => .cons q (RpK.snoc r t)
theorem RpK.any {B : Addr → Prop} {H : Hp} (k : Key) : ∀ {vs : List (Key × V)} {ds : List (Key × D)}, RpK B H vs ds → (vs.any fun kv => decide (kv.1 = k)) = ds.any fun kv => decide (kv.1 = k)
  | _, _, .nil => rfl
  | _, _, .cons q t => by rw [List.any_cons, List.any_cons, RpK.any k t]
theorem RpK.mapPut {B : Addr → Prop} {H : Hp} {k : Key} {v : V} {d : D} (r : Rp B H v d) : ∀ {vs : List (Key × V)} {ds : List (Key × D)}, RpK B H vs ds → RpK B H (vs.map fun kv => if kv.1 = k then (kv.1, v) else kv) (ds.map fun kv => if kv.1 = k then (kv.1, d) else kv)
  | _, _, .nil => .nil
  | _, _, .cons (k := j) q t => by
    rw [List.map_cons, List.map_cons]
    by_cases h : j = k
    · rw [if_pos h, if_pos h]; exact .cons r (RpK.mapPut r t)
    · rw [if_neg h, if_neg h]; exact .cons q (RpK.mapPut r t)
theorem RpK.put {B : Addr → Prop} {H : Hp} {k : Key} {v : V} {d : D} {vs : List (Key × V)} {ds : List (Key × D)} (q : RpK B H vs ds) (r : Rp B H v d) : RpK B H (putK vs k v) (putD ds k d) := by
  unfold putK putD
  rw [q.any k]
  split
  · exact q.mapPut r
  · exact q.snoc r
theorem RpT.snoc {B : Addr → Prop} {H : Hp} {k : List Key} {v : V} {d : D} (r : Rp B H v d) : ∀ {vs : List (List Key × V)} {ds : List (List Key × D)}, RpT B H vs ds → RpT B H (vs ++ [(k, v)]) (ds ++ [(k, d)])
  | _, _, .nil => .cons r .nil
  | _, _, .cons q t => .cons q (RpT.snoc r t)
theorem RpT.any {B : Addr → Prop} {H : Hp} (k : List Key) : ∀ {vs : List (List Key × V)} {ds : List (List Key × D)}, RpT B H vs ds → (vs.any fun kv => decide (kv.1 = k)) = ds.any fun kv => decide (kv.1 = k)
  | _, _, .nil => rfl
  | _, _, .cons q t => by rw [List.any_cons, List.any_cons, RpT.any k t]
theorem RpT.mapPut {B : Addr → Prop} {H : Hp} {k : List Key} {v : V} {d : D} (r : Rp B H v d) : ∀ {vs : List (List Key × V)} {ds : List (List Key × D)}, RpT B H vs ds → RpT B H (vs.map fun kv => if kv.1 = k then (kv.1, v) else kv) (ds.map fun kv => if kv.1 = k then (kv.1, d) else kv)
  | _, _, .nil => .nil
  | _, _, .cons (k := j) q t => by
    rw [List.map_cons, List.map_cons]
    by_cases h : j = k
    · rw [if_pos h, if_pos h]; exact .cons r (RpT.mapPut r t)
    · rw [if_neg h, if_neg h]; exact .cons q (RpT.mapPut r t)
theorem RpT.put {B : Addr → Prop} {H : Hp} {k : List Key} {v : V} {d : D} {vs : List (List Key × V)} {ds : List (List Key × D)} (q : RpT B H vs ds) (r : Rp B H v d) : RpT B H (putK vs k v) (putD ds k d) := by
  unfold putK putD
  rw [q.any k]
  split
  · exact q.mapPut r
  · exact q.snoc r
/-- the entry of a dict -/
def dget : D → D → Option (Option D)
  | .dK kvs, x => match keyD x with
    | some k => some (valD kvs k)
    | none => none
  | .dT kvs, .tup xs => if Md.fz = true then none else match keysD xs with
    | some k => some (valD kvs k)
    | none => none
  | _, _ => none
theorem dget_ok {B : Addr → Prop} {H : Hp} {v w : V} {x y : D} {r : Option D} (rv : Rb B H v x) (rw' : Rb B H w y) (e : dget x y = some r) : ∃ a o, v = .ref a ∧ DGet H a w o ∧ ORp B H o r := by
  unfold dget at e
  split at e
  · split at e
    · rename_i kvs y k ek
      cases e
      obtain ⟨a, vs, rfl, ea, ra⟩ := rv.dK
      refine ⟨a, valV vs k, rfl, ?_, ra.val k⟩
      rw [rw'.key ek]
      exact DGet.k ea
    · cases e
  · split at e
    · cases e
    · rename_i md
      split at e
      · rename_i kvs xs k ek
        cases e
        obtain ⟨a, vs, rfl, ea, ra⟩ := rv.dT
        obtain ⟨b, o, ws, rfl, eb, ot, rb, _⟩ := rw'.tup
        refine ⟨a, valV vs k, rfl, ?_, ra.val k⟩
        have hm : Md.fz = false := by cases h : Md.fz <;> first | rfl | exact absurd h md
        exact DGet.t ea (by rw [eb, ot.tup hm, rb.keys ek])
      · cases e
  · cases e
end
end L3

namespace L3
open PySem L2
variable [Md] [Tb]
section
variable {X : Cx} {W : WX} {mg : Str → Option Value}
/-! ### in -/
theorem flat_of {B : Addr → Prop} {H : Hp} {v w : V} {x y : D} (r : Rb B H v x) (q : Rb B H w y) {k : Key} {j : D} (e : keyD x = some k) : flatV v = true := by
  rw [r.key e]; cases k <;> rfl
def rInDict (neg : Bool) : R2 := fun x y H Q => ∃ a o, y = .ref a ∧ DGet H a x o ∧ Q (.bl (if neg = true then !o.isSome else o.isSome)) H
theorem op_inDict (hu : X.A.units + 65 < cLine) : OpR X (compareOp .In) (rInDict false) := by
  intro pins s σ H x y v u Q I rx ry ⟨a, o, e, g, q⟩
  subst e
  cases ry
  exact d_in (by omega) I g rx fun s' I' => ⟨.bl _, H, I', rfl, q⟩
theorem op_notInDict (hu : X.A.units + 65 < cLine) : OpR X (compareOp .NotIn) (rInDict true) := by
  intro pins s σ H x y v u Q I rx ry ⟨a, o, e, g, q⟩
  subst e
  cases ry
  exact d_notIn (by omega) I g rx fun s' I' => ⟨.bl _, H, I', rfl, q⟩
def flatD : D → Bool
  | .non => true
  | .bl _ => true
  | .int _ => true
  | .str _ => true
  | _ => false
theorem Rb.flat {B : Addr → Prop} {H : Hp} {v : V} {x : D} (r : Rb B H v x) (f : flatD x = true) : flatV v = true := by
  cases x with
  | non => rw [r.non]; rfl
  | bl b => rw [r.bl]; rfl
  | int b => rw [r.int]; rfl
  | str b => rw [r.str]; rfl
  | _ => cases f
theorem Rb.eqv {B : Addr → Prop} {H : Hp} {v w : V} {x y : D} (r : Rb B H v x) (q : Rb B H w y) (f : flatD x = true) (g : flatD y = true) : eqV v w = deq x y := by
  cases x <;> cases y <;> first
    | (cases f; done)
    | (cases g; done)
    | (first | rw [r.non] | rw [r.bl] | rw [r.int] | rw [r.str]) <;> (first | rw [q.non] | rw [q.bl] | rw [q.int] | rw [q.str]) <;> (unfold deq; simp only [toPy, PyData.eqv, eqV])
theorem RpAll.flat {B : Addr → Prop} {H : Hp} : ∀ {vs : List V} {ds : List D}, RpAll B H vs ds → ds.all flatD = true → vs.all flatV = true
  | _, _, .nil, _ => rfl
  | _, _, .cons r t, f => by
    rw [List.all_cons, Bool.and_eq_true] at f
    rw [List.all_cons, Rb.flat (.inl r) f.1, RpAll.flat t f.2]; rfl
theorem RpAll.inV {B : Addr → Prop} {H : Hp} {w : V} {x : D} (q : Rb B H w x) (g : flatD x = true) : ∀ {vs : List V} {ds : List D}, RpAll B H vs ds → ds.all flatD = true → inV w vs = ds.any fun z => deq z x
  | _, _, .nil, _ => rfl
  | _, _, .cons r t, f => by
    rw [List.all_cons, Bool.and_eq_true] at f
    have h := RpAll.inV q g t f.2
    unfold L2.inV at h ⊢
    rw [List.any_cons, List.any_cons, Rb.eqv (.inl r) q f.1 g, h]
theorem any_toPy {x : D} : ∀ ds : List D, ((toPys ds).any fun z => PyData.eqv z (toPy x)) = ds.any fun z => deq z x
  | [] => by rw [toPys]; rfl
  | z :: ds => by rw [toPys, List.any_cons, List.any_cons, any_toPy ds]; rfl
def isIn (x : D) : D → Option Bool
  | .lst ds => if shp x = true ∧ shp (.lst ds) = true then some (ds.any fun z => deq z x) else none
  | .tup ds => if flatD x = true ∧ ds.all flatD = true then some (ds.any fun z => deq z x) else none
  | .dK kvs => match dget (.dK kvs) x with
    | some o => some o.isSome
    | none => none
  | .dT kvs => match dget (.dT kvs) x with
    | some o => some o.isSome
    | none => none
  | _ => none
def gIn (x y : D) : Option R := (isIn x y).map fun b => .val (.bl b)
def gNotIn (x y : D) : Option R := (isIn x y).map fun b => .val (.bl (!b))
def rInU (K : PySem.W.Frag) : R2 := fun x y H Q => (rInD K x y H Q ∨ rIn K false x y H Q) ∨ rInDict false x y H Q
def rNotInU (K : PySem.W.Frag) : R2 := fun x y H Q => (rNotInD K x y H Q ∨ rIn K true x y H Q) ∨ rInDict true x y H Q
theorem op_inU (hu : X.A.units + 65 < cLine) : OpR X (compareOp .In) (rInU X.K) := ((op_inD hu).or op_in_seq).or (op_inDict hu)
theorem op_notInU (hu : X.A.units + 65 < cLine) : OpR X (compareOp .NotIn) (rNotInU X.K) := ((op_notInD hu).or op_notIn_seq).or (op_notInDict hu)
theorem ORp.isSome {B : Addr → Prop} {H : Hp} {o : Option V} {r : Option D} (h : ORp B H o r) : o.isSome = r.isSome := by
  cases r with
  | none => rw [show o = none from h]; rfl
  | some d => obtain ⟨v, e, _⟩ := h; rw [e]; rfl
/-- both at once -/
theorem ad_in' {K : PySem.W.Frag} {B : Addr → Prop} {H : Hp} {v w : V} {x y : D} {b : Bool} (rv : Rb B H v x) (rw' : Rb B H w y) (e : isIn x y = some b) (Q : VK) : (Q (.bl b) H → rInU K v w H Q) ∧ (Q (.bl (!b)) H → rNotInU K v w H Q) := by
  unfold isIn at e
  split at e
  · split at e
    · rename_i ds c
      have c2 := c.2
      unfold shp at c2
      rw [toPy] at c2
      have hl := shp_lay c.2
      have dl : Dp K H w (.list (toPys ds)) := by
        have z := rw'.dp (K := K) hl
        rw [toPy] at z
        exact z
      have ee := any_toPy (x := x) ds
      have eb := Option.some.inj e
      refine ⟨fun q => .inl (.inl ⟨toPy x, toPys ds, rv.dp (shp_lay c.1), dl, c.1, c2, ?_⟩), fun q => .inl (.inl ⟨toPy x, toPys ds, rv.dp (shp_lay c.1), dl, c.1, c2, ?_⟩)⟩
      · rw [ee, eb]; exact q
      · rw [ee, eb]; exact q
    · cases e
  · split at e
    · rename_i ds c
      obtain ⟨a, oa, vs, rfl, ea, ta, ra, na⟩ := rw'.tup
      have ee := ra.inV rv c.1 c.2
      have eb := Option.some.inj e
      refine ⟨fun q => .inl (.inr ⟨a, vs, rfl, .inr (ta.sq ea), rv.flat c.1, ra.flat c.2, ?_⟩), fun q => .inl (.inr ⟨a, vs, rfl, .inr (ta.sq ea), rv.flat c.1, ra.flat c.2, ?_⟩)⟩
      · rw [if_neg (by decide), ee, eb]; exact q
      · rw [if_pos rfl, ee, eb]; exact q
    · cases e
  · split at e
    · rename_i e1
      obtain ⟨a, o, rfl, g, r⟩ := dget_ok rw' rv e1
      have eb := Option.some.inj e
      have ei := r.isSome
      refine ⟨fun q => .inr ⟨a, o, rfl, g, ?_⟩, fun q => .inr ⟨a, o, rfl, g, ?_⟩⟩
      · rw [if_neg (by decide), ei, eb]; exact q
      · rw [if_pos rfl, ei, eb]; exact q
    · cases e
  · split at e
    · rename_i e1
      obtain ⟨a, o, rfl, g, r⟩ := dget_ok rw' rv e1
      have eb := Option.some.inj e
      have ei := r.isSome
      refine ⟨fun q => .inr ⟨a, o, rfl, g, ?_⟩, fun q => .inr ⟨a, o, rfl, g, ?_⟩⟩
      · rw [if_neg (by decide), ei, eb]; exact q
      · rw [if_pos rfl, ei, eb]; exact q
    · cases e
  · cases e
theorem ad_in {K : PySem.W.Frag} : Ad2 (rInU K) gIn := by
  intro B H v w x y z Q gd rv rw' e
  obtain ⟨b, e1, e2⟩ := Option.map_eq_some_iff.mp e
  subst e2
  exact ⟨noslot _, fun pp => (ad_in' rv rw' e1 Q).1 (pp.here (.bl b))⟩
theorem ad_notIn {K : PySem.W.Frag} : Ad2 (rNotInU K) gNotIn := by
  intro B H v w x y z Q gd rv rw' e
  obtain ⟨b, e1, e2⟩ := Option.map_eq_some_iff.mp e
  subst e2
  exact ⟨noslot _, fun pp => (ad_in' rv rw' e1 Q).2 (pp.here (.bl _))⟩
/-! ### a[b] -/
def rIxDct : R2 := fun x y H Q => ∃ a v, x = .ref a ∧ DGet H a y (some v) ∧ Q v H
theorem dget_type {pins : List (Addr × Obj)} {σ : St} {H : Hp} {s : Shared} {a : Addr} {y : V} {o : Option V} (I : Inv X pins σ H s) (g : DGet H a y o) : s.TypeIs (.ref a) "dict" := by
  rcases g with ⟨kvs, k, e, ey, l⟩ | ⟨kvs, k, b, e, ey, eb, l⟩
  · obtain ⟨z, hd, vs, rel, dd⟩ := dk_rd I.hok e
    exact dd.mapOf.typeIs
  · obtain ⟨z, hd, xs, rel, ob, es, ep, e1, e2, e3⟩ := e.ok I.hok
    exact ⟨ob, e1, e2.1⟩
theorem ix_dict (hu : X.A.units + 65 < cLine) : IxR X rIxDct := by
  intro value slice pins s σ H x y v u Q I rx ry ⟨a, z, e, g, q⟩ hs
  subst e
  cases rx
  exact PyProof.Rows.tail_any (dget_type I g) PySem.F.slot_dict_getitem.lookup (d_getItem (by omega) I g ry fun w' s' I' r => ⟨z, H, I', r, q⟩) hs
def rIxU (K : PySem.W.Frag) : R2 := fun x y H Q => rIx K x y H Q ∨ rIxDct x y H Q
theorem ix_u (hu : X.A.units + 65 < cLine) : IxR X (rIxU X.K) := ix_seq.or (ix_dict hu)
def gIx : D → D → Option R
  | .lst ds, .int i => (atI ds i).map .val
  | .tup ds, .int i => (atI ds i).map .val
  | .str z, .int i => if z.length ≤ sizeLine then (atI z.cps.toList i).map fun c => .val (.str ⟨#[c]⟩) else none
  | .dK kvs, x => match dget (.dK kvs) x with
    | some (some d) => some (.val d)
    | _ => none
  | .dT kvs, x => match dget (.dT kvs) x with
    | some (some d) => some (.val d)
    | _ => none
  | _, _ => none
theorem RpAll.atI {B : Addr → Prop} {H : Hp} {vs : List V} {ds : List D} {i : Int} {d : D} (r : RpAll B H vs ds) (e : atI ds i = some d) : ∃ v, L2.atI vs i = some v ∧ Rp B H v d := by
  unfold L2.atI at e ⊢
  rw [r.length]
  cases h : ixN ds.length i with
  | none => rw [h] at e; cases e
  | some j => rw [h] at e; exact r.get e
theorem ad_ix {K : PySem.W.Frag} : Ad2 (rIxU K) gIx := by
  intro B H v w x y z Q gd rv rw' e
  unfold gIx at e
  split at e
  · rename_i ds i
    obtain ⟨d, e1, e2⟩ := Option.map_eq_some_iff.mp e
    subst e2
    obtain ⟨a, vs, rfl, ea, ra⟩ := rv.lst
    obtain ⟨u, e3, e4⟩ := ra.atI e1
    exact ⟨noslot _, fun pp => .inl (.inl ⟨a, vs, i, u, rfl, rw'.int, SqL.of ea, e3, pp.here e4⟩)⟩
  · rename_i ds i
    obtain ⟨d, e1, e2⟩ := Option.map_eq_some_iff.mp e
    subst e2
    obtain ⟨a, oa, vs, rfl, ea, ta, ra, _⟩ := rv.tup
    obtain ⟨u, e3, e4⟩ := ra.atI e1
    exact ⟨noslot _, fun pp => .inl (.inr (.inl ⟨a, vs, i, u, rfl, rw'.int, ta.sq ea, e3, pp.here e4⟩))⟩
  · rename_i s i
    split at e
    · rename_i c
      obtain ⟨d, e1, e2⟩ := Option.map_eq_some_iff.mp e
      subst e2
      exact ⟨noslot _, fun pp => .inl (.inr (.inr ⟨s, i, d, rv.str, rw'.int, c, e1, pp.here (.str _)⟩))⟩
    · cases e
  · split at e
    · rename_i e1
      cases e
      obtain ⟨a, o, rfl, g, r⟩ := dget_ok rv rw' e1
      obtain ⟨u, rfl, ru⟩ := r
      exact ⟨noslot _, fun pp => .inr ⟨a, u, rfl, g, pp.here ru⟩⟩
    · cases e
  · split at e
    · rename_i e1
      cases e
      obtain ⟨a, o, rfl, g, r⟩ := dget_ok rv rw' e1
      obtain ⟨u, rfl, ru⟩ := r
      exact ⟨noslot _, fun pp => .inr ⟨a, u, rfl, g, pp.here ru⟩⟩
    · cases e
  · cases e
theorem ev_ix {a b : Expr} {ta tb : TE} {fa fb : M R} {pos : Pos} {r : R2} {g : D → D → Option R} (ho : IxR X r) (ad : Ad2 r g) (ha : Ev X W a ta fa) (hb : Ev X W b tb fb) (hs : PlainIx b) : Ev X W (.Subscript a b pos) (tOp r ta tb) (fBin g fa fb) :=
  ⟨pe_ix ho ha.pe hb.pe hs, snd_bin ad ha.sd hb.sd⟩
end
end L3

namespace L3
open PySem L2
variable [Md] [Tb]
section
variable {X : Cx} {W : WX} {mg : Str → Option Value}
theorem AdC.or {r r' : List V → Hp → VK → Prop} {g g' : List D → Option R} (h : AdC r g) (h' : AdC r' g') : AdC (fun x H Q => r x H Q ∨ r' x H Q) (fun x => match g x with | some z => some z | none => g' x) := by
  intro B H vs x z Q gd rv e
  simp only at e
  split at e
  · rename_i z' e1
    cases e
    obtain ⟨h1, h2⟩ := h B H vs x z Q gd rv e1
    exact ⟨h1, fun pp => .inl (h2 pp)⟩
  · obtain ⟨h1, h2⟩ := h' B H vs x z Q gd rv e
    exact ⟨h1, fun pp => .inr (h2 pp)⟩
theorem RbAll.one {B : Addr → Prop} {H : Hp} {vs : List V} {d : D} (h : RbAll B H vs [d]) : ∃ v, vs = [v] ∧ Rb B H v d := by
  cases h with
  | cons r t => cases t; exact ⟨_, rfl, r⟩
theorem RbAll.two {B : Addr → Prop} {H : Hp} {vs : List V} {d e : D} (h : RbAll B H vs [d, e]) : ∃ v w, vs = [v, w] ∧ Rb B H v d ∧ Rb B H w e := by
  cases h with
  | cons r t => cases t with
    | cons q t => cases t; exact ⟨_, _, rfl, r, q⟩
/-! ### len -/
def rLenU (K : PySem.W.Frag) : List V → Hp → VK → Prop := fun xs H Q => ((∃ p ys, xs = [.ref p] ∧ (SqL K H p ys ∨ SqT K H p ys) ∧ Q (.int ys.length) H) ∨ (∃ z, xs = [.str z] ∧ z.length ≤ sizeLine ∧ Q (.int z.length) H)) ∨ (∃ a kvs, xs = [V.ref a] ∧ H a = some (.dK kvs) ∧ Q (.int kvs.length) H)
theorem CallR.or {f : Value} {r r' : List V → Hp → VK → Prop} (h : CallR X f r) (h' : CallR X f r') : CallR X f (fun xs H Q => r xs H Q ∨ r' xs H Q) := by
  intro pins s σ H xs us Q I rs q
  rcases q with q | q
  · exact h pins s σ H xs us Q I rs q
  · exact h' pins s σ H xs us Q I rs q
theorem cr_lenU : CallR X (.builtin "len") (rLenU X.K) := CallR.or (CallR.or call_len_seq call_len_str) call_lenD
def gLen : List D → Option R
  | [.lst ds] => some (.val (.int ds.length))
  | [.tup ds] => some (.val (.int ds.length))
  | [.str z] => if z.length ≤ sizeLine then some (.val (.int z.length)) else none
  | [.dK ds] => some (.val (.int ds.length))
  | _ => none
theorem ad_len {K : PySem.W.Frag} : AdC (rLenU K) gLen := by
  intro B H vs ds z Q gd rv e
  unfold gLen at e
  split at e
  · cases e
    obtain ⟨v, rfl, r⟩ := rv.one
    obtain ⟨a, us, rfl, ea, ra⟩ := r.lst
    exact ⟨noslot _, fun pp => .inl (.inl ⟨a, us, rfl, .inl (SqL.of ea), by rw [ra.length]; exact pp.here (.int _)⟩)⟩
  · cases e
    obtain ⟨v, rfl, r⟩ := rv.one
    obtain ⟨a, oa, us, rfl, ea, ta, ra, _⟩ := r.tup
    exact ⟨noslot _, fun pp => .inl (.inl ⟨a, us, rfl, .inr (ta.sq ea), by rw [ra.length]; exact pp.here (.int _)⟩)⟩
  · split at e
    · rename_i c
      cases e
      obtain ⟨v, rfl, r⟩ := rv.one
      exact ⟨noslot _, fun pp => .inl (.inr ⟨_, by rw [r.str], c, pp.here (.int _)⟩)⟩
    · cases e
  · cases e
    obtain ⟨v, rfl, r⟩ := rv.one
    obtain ⟨a, us, rfl, ea, ra⟩ := r.dK
    exact ⟨noslot _, fun pp => .inr ⟨a, us, rfl, ea, by rw [ra.length]; exact pp.here (.int _)⟩⟩
  · cases e
/-! ### abs, int, min, max of two -/
def gAbs : List D → Option R
  | [.int i] => some (.val (.int (if i < 0 then -i else i)))
  | _ => none
theorem ad_abs : AdC (fun xs H Q => ∃ i, xs = [.int i] ∧ Q (.int (if i < 0 then -i else i)) H) gAbs := by
  intro B H vs ds z Q gd rv e
  unfold gAbs at e
  split at e
  · cases e
    obtain ⟨v, rfl, r⟩ := rv.one
    exact ⟨noslot _, fun pp => ⟨_, by rw [r.int], pp.here (.int _)⟩⟩
  · cases e
def gInt : List D → Option R
  | [.int i] => some (.val (.int i))
  | [.bl b] => some (.val (.int (if b = true then 1 else 0)))
  | _ => none
theorem ad_int : AdC (fun xs H Q => (∃ i, xs = [.int i] ∧ Q (.int i) H) ∨ ∃ k : Bool, xs = [.bl k] ∧ Q (.int (if k = true then 1 else 0)) H) gInt := by
  intro B H vs ds z Q gd rv e
  unfold gInt at e
  split at e
  · cases e
    obtain ⟨v, rfl, r⟩ := rv.one
    exact ⟨noslot _, fun pp => .inl ⟨_, by rw [r.int], pp.here (.int _)⟩⟩
  · cases e
    obtain ⟨v, rfl, r⟩ := rv.one
    exact ⟨noslot _, fun pp => .inr ⟨_, by rw [r.bl], pp.here (.int _)⟩⟩
  · cases e
/-! ### list(..), tuple(..) of a sequence -/
def rListOf (K : PySem.W.Frag) : List V → Hp → VK → Prop := fun xs H Q => ∃ p ys, xs = [.ref p] ∧ (SqL K H p ys ∨ SqT K H p ys) ∧ ∀ l, H l = none → Q (.ref l) (upd H l (.lst ys))
theorem cr_listOf : CallR X (.type "list") (rListOf X.K) := call_list_of
def gListOf : List D → Option R
  | [.lst ds] => some (.fresh (.lst ds))
  | [.tup ds] => some (.fresh (.lst ds))
  | _ => none
theorem ad_listOf {K : PySem.W.Frag} : AdC (rListOf K) gListOf := by
  intro B H vs ds z Q gd rv e
  unfold gListOf at e
  split at e
  · cases e
    obtain ⟨v, rfl, r⟩ := rv.one
    obtain ⟨a, us, rfl, ea, ra⟩ := r.lst
    exact ⟨noslotF _, fun pp => ⟨a, us, rfl, .inl (SqL.of ea), fun l hl => pp l _ hl (.lst ra)⟩⟩
  · cases e
    obtain ⟨v, rfl, r⟩ := rv.one
    obtain ⟨a, oa, us, rfl, ea, ta, ra, _⟩ := r.tup
    exact ⟨noslotF _, fun pp => ⟨a, us, rfl, .inr (ta.sq ea), fun l hl => pp l _ hl (.lst ra)⟩⟩
  · cases e
def rTupleOf (K : PySem.W.Frag) : List V → Hp → VK → Prop := fun xs H Q => ∃ p ys, xs = [.ref p] ∧ ((SqL K H p ys ∧ ∀ l o, OT o ys → H l = none → Q (.ref l) (upd H l o)) ∨ (SqT K H p ys ∧ Q (.ref p) H))
theorem cr_tupleOf : CallR X (.type "tuple") (rTupleOf X.K) := by
  intro pins s σ H xs us Q I r h
  obtain ⟨p, ys, rfl, h⟩ := h
  obtain ⟨u, rfl, rx⟩ := vals1 r
  cases rx
  rcases h with ⟨hq, q⟩ | ⟨hq, q⟩
  · obtain ⟨its, r', pl, hz⟩ := I.list hq
    have hlen := r'.length
    refine PySem.call_tuple_list pl.isList (fun h' kp => ?_) (by simp only [List.size_toArray] <;> omega)
    have I1 : Inv X pins σ H { s with heap := h' } := I.kept (t' := s.toks) kp
    obtain ⟨o, ot, I2⟩ := tup_laid I1 r' hz
    exact ⟨.ref h'.objs.size, _, I2, rfl, q _ o ot (I1.hok.fresh (Nat.le_refl _))⟩
  · obtain ⟨its, r', pl, hz⟩ := I.tuple hq
    exact PySem.call_tuple_same pl ⟨.ref p, H, I, rfl, q⟩
def gTupleOf : List D → Option R
  | [.lst ds] => some (.val (.tup ds))
  | [.tup ds] => some (.val (.tup ds))
  | _ => none
theorem ad_tupleOf {K : PySem.W.Frag} : AdC (rTupleOf K) gTupleOf := by
  intro B H vs ds z Q gd rv e
  unfold gTupleOf at e
  split at e
  · cases e
    obtain ⟨v, rfl, r⟩ := rv.one
    obtain ⟨a, us, rfl, ea, ra⟩ := r.lst
    exact ⟨noslot _, fun pp => ⟨a, us, rfl, .inl ⟨SqL.of ea, fun l o ot hl => pp.new gd hl (.tup ot ra)⟩⟩⟩
  · cases e
    obtain ⟨v, rfl, r⟩ := rv.one
    obtain ⟨a, oa, us, rfl, ea, ta, ra, na⟩ := r.tup
    exact ⟨noslot _, fun pp => ⟨a, us, rfl, .inr ⟨ta.sq ea, pp.here (.ob ea na (.tup ta ra))⟩⟩⟩
  · cases e
/-! ### sorted of ints, min and max of a list of ints -/
def sortI (ns : List Int) : List Int := ns.mergeSort fun a b => decide (a ≤ b)
theorem sortI_perm (ns : List Int) : (sortI ns).Perm ns := List.mergeSort_perm _ _
theorem sortI_sorted (ns : List Int) : (sortI ns).Pairwise (· ≤ ·) := by
  have h := List.pairwise_mergeSort (le := fun a b : Int => decide (a ≤ b)) (fun a b c h1 h2 => by simp only [decide_eq_true_eq] at *; omega) (fun a b => by simp only [Bool.or_eq_true, decide_eq_true_eq]; omega) ns
  exact h.imp fun {a b} q => of_decide_eq_true q
theorem sortI_uniq {ns ms : List Int} (p : ms.Perm ns) (s : ms.Pairwise (· ≤ ·)) : ms = sortI ns :=
  List.Perm.eq_of_pairwise (le := (· ≤ ·)) (fun a b _ _ h1 h2 => by omega) s (sortI_sorted ns) (p.trans (sortI_perm ns).symm)
def gSortedI : List D → Option R
  | [.lst ds] => match intsD ds with
    | some ns => some (.fresh (.lst ((sortI ns).map .int)))
    | none => none
  | _ => none
theorem ad_sortedI {K : PySem.W.Frag} : AdC (rSortedI K) gSortedI := by
  intro B H vs ds z Q gd rv e
  unfold gSortedI at e
  split at e
  · split at e
    · rename_i ns en
      cases e
      obtain ⟨v, rfl, r⟩ := rv.one
      obtain ⟨a, us, rfl, ea, ra⟩ := r.lst
      refine ⟨noslotF _, fun pp => ⟨a, ns, rfl, ?_, fun ns' p hp hs hn => ?_⟩⟩
      · rw [← ra.ints en]; exact SqL.of ea
      · rw [sortI_uniq hp hs]
        exact pp p _ hn (.lst (rpAll_ints _ _ _))
    · cases e
  · cases e
def minI : List Int → Int
  | [] => 0
  | [a] => a
  | a :: b :: r => min a (minI (b :: r))
def maxI : List Int → Int
  | [] => 0
  | [a] => a
  | a :: b :: r => max a (maxI (b :: r))
theorem minI_spec : ∀ ns : List Int, ns ≠ [] → minI ns ∈ ns ∧ ∀ y ∈ ns, minI ns ≤ y
  | [], h => absurd rfl h
  | [a], _ => ⟨List.mem_singleton.mpr rfl, fun y hy => by rw [List.mem_singleton.mp hy]; exact Int.le_refl _⟩
  | a :: b :: r, _ => by
    obtain ⟨h1, h2⟩ := minI_spec (b :: r) (by simp)
    rw [minI]
    refine ⟨?_, fun y hy => ?_⟩
    · rcases Int.le_total a (minI (b :: r)) with h | h
      · rw [Int.min_eq_left h]; exact List.mem_cons_self
      · rw [Int.min_eq_right h]; exact List.mem_cons_of_mem _ h1
    · rcases List.mem_cons.mp hy with rfl | hy
      · exact Int.min_le_left _ _
      · exact Int.le_trans (Int.min_le_right _ _) (h2 y hy)
theorem maxI_spec : ∀ ns : List Int, ns ≠ [] → maxI ns ∈ ns ∧ ∀ y ∈ ns, y ≤ maxI ns
  | [], h => absurd rfl h
  | [a], _ => ⟨List.mem_singleton.mpr rfl, fun y hy => by rw [List.mem_singleton.mp hy]; exact Int.le_refl _⟩
  | a :: b :: r, _ => by
    obtain ⟨h1, h2⟩ := maxI_spec (b :: r) (by simp)
    rw [maxI]
    refine ⟨?_, fun y hy => ?_⟩
    · rcases Int.le_total a (maxI (b :: r)) with h | h
      · rw [Int.max_eq_right h]; exact List.mem_cons_of_mem _ h1
      · rw [Int.max_eq_left h]; exact List.mem_cons_self
    · rcases List.mem_cons.mp hy with rfl | hy
      · exact Int.le_max_left _ _
      · exact Int.le_trans (h2 y hy) (Int.le_max_right _ _)
def rMinU (K : PySem.W.Frag) : List V → Hp → VK → Prop := fun xs H Q => rMin K xs H Q ∨ (∃ i j, xs = [.int i, .int j] ∧ Q (.int (if j < i then j else i)) H)
def rMaxU (K : PySem.W.Frag) : List V → Hp → VK → Prop := fun xs H Q => rMax K xs H Q ∨ (∃ i j, xs = [.int i, .int j] ∧ Q (.int (if j > i then j else i)) H)
theorem cr_minU (hc : X.calm = true) : CallR X (.builtin "min") (rMinU X.K) := CallR.or (cr_min hc) (call_min2 hc)
theorem cr_maxU (hc : X.calm = true) : CallR X (.builtin "max") (rMaxU X.K) := CallR.or (cr_max hc) (call_max2 hc)
def gMin : List D → Option R
  | [.lst ds] => match intsD ds with
    | some [] => none
    | some ns => some (.val (.int (minI ns)))
    | none => none
  | [.int i, .int j] => some (.val (.int (if j < i then j else i)))
  | _ => none
def gMax : List D → Option R
  | [.lst ds] => match intsD ds with
    | some [] => none
    | some ns => some (.val (.int (maxI ns)))
    | none => none
  | [.int i, .int j] => some (.val (.int (if j > i then j else i)))
  | _ => none
theorem ad_min {K : PySem.W.Frag} : AdC (rMinU K) gMin := by
  intro B H vs ds z Q gd rv e
  unfold gMin at e
  split at e
  · split at e
    · cases e
    · rename_i ns hne en
      cases e
      obtain ⟨v, rfl, r⟩ := rv.one
      obtain ⟨a, us, rfl, ea, ra⟩ := r.lst
      have hn : ns ≠ [] := fun h => hne h
      refine ⟨noslot _, fun pp => .inl ⟨a, ns, rfl, ?_, List.length_pos_iff.mpr hn, fun m h1 h2 => ?_⟩⟩
      · rw [← ra.ints en]; exact SqL.of ea
      · obtain ⟨q1, q2⟩ := minI_spec ns hn
        have em : m = minI ns := Int.le_antisymm (h2 _ q1) (q2 _ h1)
        rw [em]; exact pp.here (.int _)
    · cases e
  · cases e
    obtain ⟨v, w, rfl, r, q⟩ := rv.two
    exact ⟨noslot _, fun pp => .inr ⟨_, _, by rw [r.int, q.int], pp.here (.int _)⟩⟩
  · cases e
theorem ad_max {K : PySem.W.Frag} : AdC (rMaxU K) gMax := by
  intro B H vs ds z Q gd rv e
  unfold gMax at e
  split at e
  · split at e
    · cases e
    · rename_i ns hne en
      cases e
      obtain ⟨v, rfl, r⟩ := rv.one
      obtain ⟨a, us, rfl, ea, ra⟩ := r.lst
      have hn : ns ≠ [] := fun h => hne h
      refine ⟨noslot _, fun pp => .inl ⟨a, ns, rfl, ?_, List.length_pos_iff.mpr hn, fun m h1 h2 => ?_⟩⟩
      · rw [← ra.ints en]; exact SqL.of ea
      · obtain ⟨q1, q2⟩ := maxI_spec ns hn
        have em : m = maxI ns := Int.le_antisymm (q2 _ h1) (h2 _ q1)
        rw [em]; exact pp.here (.int _)
    · cases e
  · cases e
    obtain ⟨v, w, rfl, r, q⟩ := rv.two
    exact ⟨noslot _, fun pp => .inr ⟨_, _, by rw [r.int, q.int], pp.here (.int _)⟩⟩
  · cases e
end
end L3

namespace L3
open PySem L2
variable [Md] [Tb]
section
variable {X : Cx} {W : WX} {mg : Str → Option Value}
/-! ### a read-only method -/
inductive Ty where | list | tuple | dict | str
def Ty.nm : Ty → String
  | .list => "list" | .tuple => "tuple" | .dict => "dict" | .str => "str"
def isTy : Ty → D → Bool
  | .list, .lst _ => true
  | .tuple, .tup _ => Md.fz
  | .dict, .dK _ => true
  | .dict, .dT _ => true
  | .str, .str _ => true
  | _, _ => false
/-- the value is of the type, and is no holder of attributes -/
def tyW (K : PySem.W.Frag) (T : Ty) (x : V) (H : Hp) : Prop := tyV K T.nm x H ∨ (T = .tuple ∧ ∃ a ob xs, x = .ref a ∧ H a = some (.frz ob (.tup xs)) ∧ ob.dict = none)
theorem tyW_is {pins : List (Addr × Obj)} {σ : St} {H : Hp} {s : Shared} {T : Ty} {x : V} {v : Value} (I : Inv X pins σ H s) (r : RelV x v) (ty : tyW X.K T x H) :
    s.TypeIs v T.nm ∧ ∀ a, v = .ref a → ∃ ob, s.heap.get? a = some ob ∧ ob.dict = none := by
  rcases ty with ty | ⟨rfl, a, ob, xs, rfl, e, hd⟩
  · exact tyV_is I r ty
  · cases r
    obtain ⟨h1, h2, its, h3, ⟨ob', h4, h5, _⟩⟩ := I.hok a _ e
    rw [h1] at h4; cases h4
    exact ⟨⟨ob, h1, h5⟩, fun b eb => by cases eb; exact ⟨ob, h1, hd⟩⟩
theorem Rb.ty {K : PySem.W.Frag} {B : Addr → Prop} {H : Hp} {v : V} {d : D} {T : Ty} (r : Rb B H v d) (h : isTy T d = true) : tyW K T v H := by
  unfold isTy at h
  split at h
  · obtain ⟨a, vs, rfl, e, _⟩ := r.lst
    exact .inl (.inl ⟨rfl, vs, SqL.of e⟩)
  · obtain ⟨a, o, vs, rfl, e, ot, _⟩ := r.tup
    rcases ot with ⟨h', _⟩ | ⟨_, ob, hd, rfl⟩
    · rw [h] at h'; cases h'
    · exact .inr ⟨rfl, a, ob, vs, rfl, e, hd⟩
  · obtain ⟨a, vs, rfl, e, _⟩ := r.dK
    exact .inl (.inr (.inr (.inl ⟨rfl, .inl ⟨vs, e⟩⟩)))
  · obtain ⟨a, vs, rfl, e, _⟩ := r.dT
    exact .inl (.inr (.inr (.inl ⟨rfl, .inr ⟨vs, e⟩⟩)))
  · rw [r.str]; exact .inl rfl
  · cases h
def tMt (K : PySem.W.Frag) (T : Ty) (r : V → List V → Hp → VK → Prop) (to : TE) (t : TA) : TE := fun σ H Q => to σ H fun x H1 => tyW K T x H1 ∧ t σ H1 fun xs H2 => r x xs H2 Q
theorem pe_mtW {o e : Expr} {es : List Expr} {to : TE} {t : TA} {name : Str} {apos cpos : Pos} {T : Ty} {id : String} {r : V → List V → Hp → VK → Prop} (pa : PlainAttrs T.nm) (slot : Slot T.nm name id) (hty : typeOf (.builtin id) = pure (.type "method_descriptor")) (hm : MtR X id r) (ho : PE X o to) (ha : PA X (e :: es) t)
    (hbase : attributeBase o name X.env (eval o X.env) = eval o X.env := by rfl)
    (hfew : ((backTo cpos (starEach (e :: es) X.env)).all (fun x => !x.1) && (backToKw cpos (keywordEach [] X.env)).all (fun x => x.1.isSome)
      && decide ((e :: es).length + ([] : List Keyword).length + (if ([] : List Keyword).isEmpty then 0 else 1) < 30)) = true := by rfl)
    (hline : (apos.endLine == cpos.line) = true := by rfl) (hs : starEach (e :: es) X.env = (false, eval e X.env) :: starEach es X.env := by rfl) (hplain : (backTo cpos (starEach es X.env)).any (·.1) = false := by rfl) :
    PE X (.Call (.Attribute o name apos) (e :: es) [] cpos) (tMt X.K T r to t) := by
  refine ⟨fun pins s σ H Q I h => ?_⟩
  refine PySem.wpAny_Call_method_late hbase hfew hline rfl (thn (ho.run pins s σ H _ I h) fun v s1 ⟨x, H1, I1, r1, ty, q1⟩ => ?_)
  obtain ⟨h1, h2⟩ := tyW_is I1 r1 ty
  refine ⟨T.nm, id, pa, slot, hty, h1, h2, ?_⟩
  have hA := ha.run cpos pins s1 σ H1 _ I1 q1
  rw [hs] at hA ⊢
  refine PySem.Calls.callWith_builtin (by show (false || (backTo cpos (starEach es X.env)).any (·.1)) = false; rw [hplain] <;> rfl) (PySem.Calls.evalArgs_plain ?_)
  exact thn hA fun us s2 ⟨vs, H2, I2, r2, q2⟩ => hm pins s2 σ H2 x vs v us Q I2 r1 r2 q2
def AdR (r : V → List V → Hp → VK → Prop) (g : D → List D → Option R) : Prop := ∀ B H v vs d ds z Q, (∀ p, H p = none → ¬ B p) → Rb B H v d → RbAll B H vs ds → g d ds = some z → (∀ i, z ≠ .slot i) ∧ (PP B H Q z → r v vs H Q)
def fMt (T : Ty) (g : D → List D → Option R) (fo : M R) (fa : M (List R)) : M R := fo.bind fun x ρ => match deref ρ x with
  | some d => if isTy T d = true then (fa.bind fun rs ρ2 => match deref ρ2 x, derefs ρ2 rs with
      | some d2, some ds => M.of (g d2 ds) ρ2
      | _, _ => none) ρ else none
  | none => none
theorem snd_mt {K : PySem.W.Frag} {T : Ty} {r : V → List V → Hp → VK → Prop} {g : D → List D → Option R} {to : TE} {t : TA} {fo : M R} {fa : M (List R)} (ad : AdR r g) (ho : Snd mg W to fo) (ha : SndA mg W t fa) : Snd mg W (tMt K T r to t) (fMt T g fo fa) := by
  intro F A O σ H ρ rr ρ' Q rel hf post
  refine ho.then rel hf post.err fun H1 v x ρ1 t1 rel1 rb1 hf1 => ?_
  have post1 := post.tr t1
  split at hf1
  · rename_i d e
    split at hf1
    · rename_i c
      refine ⟨(rb1.rb rel1 e).ty c, ?_⟩
      refine ha.then rel1 hf1 post1.err fun H2 vs xs ρ2 t2 rel2 rb2 hf2 => ?_
      have post2 := post1.tr t2
      split at hf2
      · rename_i d2 ds e2 e3
        unfold M.of at hf2
        split at hf2
        · rename_i z e4
          cases hf2
          obtain ⟨h1, h2⟩ := ad _ H2 v vs d2 ds z Q (fun _ n => rel2.good n) ((rb1.tr t2).rb rel2 e2) (RBs.derefs rel2 rb2 e3) e4
          exact h2 (PP.post h1 rel2 post2)
        · cases hf2
      · cases hf2
    · cases hf1
  · cases hf1
theorem ev_mt {o e : Expr} {es : List Expr} {to : TE} {t : TA} {fo : M R} {fa : M (List R)} {name : Str} {apos cpos : Pos} {T : Ty} {id : String} {r : V → List V → Hp → VK → Prop} {g : D → List D → Option R} (pa : PlainAttrs T.nm) (slot : Slot T.nm name id) (hty : typeOf (.builtin id) = pure (.type "method_descriptor")) (hm : MtR X id r) (ad : AdR r g) (ho : Ev X W o to fo) (ha : EvA X W (e :: es) t fa)
    (hbase : attributeBase o name X.env (eval o X.env) = eval o X.env := by rfl)
    (hfew : ((backTo cpos (starEach (e :: es) X.env)).all (fun x => !x.1) && (backToKw cpos (keywordEach [] X.env)).all (fun x => x.1.isSome)
      && decide ((e :: es).length + ([] : List Keyword).length + (if ([] : List Keyword).isEmpty then 0 else 1) < 30)) = true := by rfl)
    (hline : (apos.endLine == cpos.line) = true := by rfl) (hs : starEach (e :: es) X.env = (false, eval e X.env) :: starEach es X.env := by rfl) (hplain : (backTo cpos (starEach es X.env)).any (·.1) = false := by rfl) :
    Ev X W (.Call (.Attribute o name apos) (e :: es) [] cpos) (tMt X.K T r to t) (fMt T g fo fa) :=
  ⟨pe_mtW pa slot hty hm ho.pe ha.pe hbase hfew hline hs hplain, snd_mt ad ho.sd ha.sd⟩
/-! ### index -/
def gIndex : D → List D → Option R
  | .lst ds, [x] => if flatD x = true ∧ ds.all flatD = true then (ds.findIdx? fun z => deq z x).map fun j => .val (.int (j : Nat)) else none
  | .tup ds, [x] => if flatD x = true ∧ ds.all flatD = true then (ds.findIdx? fun z => deq z x).map fun j => .val (.int (j : Nat)) else none
  | _, _ => none
theorem findIdx_spec {p : D → Bool} : ∀ {ds : List D} {j : Nat}, ds.findIdx? p = some j → ∃ z, ds[j]? = some z ∧ p z = true ∧ ∀ m z', m < j → ds[m]? = some z' → p z' = false := by
  intro ds j h
  obtain ⟨hj, h1, h2⟩ := List.findIdx?_eq_some_iff_getElem.mp h
  refine ⟨ds[j], List.getElem?_eq_getElem hj, h1, fun m z' hm e => ?_⟩
  have := h2 m hm
  rw [List.getElem?_eq_getElem (by omega)] at e
  cases e
  simpa using this
theorem RpAll.find {B : Addr → Prop} {H : Hp} {w : V} {x : D} {vs : List V} {ds : List D} {j : Nat} (q : Rb B H w x) (g : flatD x = true) (r : RpAll B H vs ds) (f : ds.all flatD = true) (e : ds.findIdx? (fun z => deq z x) = some j) :
    ∃ z, vs[j]? = some z ∧ eqV z w = true ∧ ∀ (m : Nat) (z' : V), m < j → vs[m]? = some z' → eqV z' w = false := by
  obtain ⟨z, h1, h2, h3⟩ := findIdx_spec e
  obtain ⟨v, e1, e2⟩ := r.get h1
  have fl : ∀ {i : Nat} {z : D}, ds[i]? = some z → flatD z = true := fun h => List.all_eq_true.mp f _ (List.mem_of_getElem? h)
  refine ⟨v, e1, ?_, fun m z' hm e => ?_⟩
  · rw [Rb.eqv (.inl e2) q (fl h1) g]; exact h2
  · obtain ⟨d', e3, e4⟩ := r.get' e
    rw [Rb.eqv (.inl e4) q (fl e3) g]; exact h3 m d' hm e3
def rIndexT (K : PySem.W.Frag) : V → List V → Hp → VK → Prop := fun x xs H Q => ∃ (a : Addr) (ys : List V) (y : V) (j : Nat) (z : V), x = V.ref a ∧ xs = [y] ∧ SqT K H a ys ∧ flatV y = true ∧ ys.all flatV = true ∧ ys[j]? = some z ∧ eqV z y = true ∧
  (∀ (m : Nat) (z' : V), m < j → ys[m]? = some z' → eqV z' y = false) ∧ Q (.int (j : Nat)) H
theorem mt_indexT : MtR X "tuple.index" (rIndexT X.K) := by
  intro pins s σ H x xs v us Q I rx rxs h
  obtain ⟨a, ys, y, j, z, rfl, rfl, hs, fy, fys, hz, hzj, hno, q⟩ := h
  cases rx
  cases rxs with
  | cons ry rt =>
    rename_i uy ut
    cases rt
    obtain ⟨its, rv, ⟨⟨cls, dd, data, sl⟩, ho, hc, n, hd⟩, hlen⟩ := I.tuple hs
    simp only at hc hd
    subst hc hd
    obtain ⟨u, hu, ru⟩ := rv.get hz
    obtain ⟨hjl, hje⟩ := List.getElem?_eq_some_iff.mp hu
    have hvl := rv.length
    have hj : j < its.toArray.size := by simpa using hjl
    refine call_meets PySem.F.slot_tuple_index ⟨_, ho, rfl⟩ PySem.F.entry_tuple_index (PySem.F.args_tuple_index_2 _ _)
      (TI.tuple_indexAt a its.toArray n dd sl uy (eqU y) j hj ?_ ?_) ⟨ho, fun u' hu' => mem_eqAt ry fy rv fys u' (by simpa using hu'), ?_⟩
    · have e1 : its.toArray[j] = u := by simpa using hje
      rw [e1, eqU_of ru (flat_at fys hz)]
      exact hzj
    · intro m hm hmj
      have hml : m < its.length := by simpa using hm
      have hmy : m < ys.length := by omega
      have hy' : ys[m]? = some ys[m] := List.getElem?_eq_getElem hmy
      obtain ⟨u2, hu2, ru2⟩ := rv.get hy'
      obtain ⟨_, hme⟩ := List.getElem?_eq_some_iff.mp hu2
      have e1 : its.toArray[m] = u2 := by simpa using hme
      rw [e1, eqU_of ru2 (flat_at fys hy')]
      exact hno m _ hmj hy'
    · exact ⟨.int (j : Nat), H, I.tok _, ⟨_, rfl⟩, q⟩
def gIndexL : D → List D → Option R
  | .lst ds, [x] => if flatD x = true ∧ ds.all flatD = true then (ds.findIdx? fun z => deq z x).map fun j => .val (.int (j : Nat)) else none
  | _, _ => none
def gIndexT : D → List D → Option R
  | .tup ds, [x] => if flatD x = true ∧ ds.all flatD = true then (ds.findIdx? fun z => deq z x).map fun j => .val (.int (j : Nat)) else none
  | _, _ => none
theorem ad_indexL {K : PySem.W.Frag} : AdR (rIndex K) gIndexL := by
  intro B H v vs d ds z Q gd rv rs e
  unfold gIndexL at e
  split at e
  · rename_i us x
    split at e
    · rename_i c
      obtain ⟨j, e1, e2⟩ := Option.map_eq_some_iff.mp e
      subst e2
      obtain ⟨w, rfl, rw'⟩ := rs.one
      obtain ⟨a, ys, rfl, ea, ra⟩ := rv.lst
      obtain ⟨y, h1, h2, h3⟩ := ra.find rw' c.1 c.2 e1
      exact ⟨noslot _, fun pp => ⟨a, ys, w, j, y, rfl, rfl, SqL.of ea, rw'.flat c.1, ra.flat c.2, h1, h2, h3, pp.here (.int _)⟩⟩
    · cases e
  · cases e
theorem ad_indexT {K : PySem.W.Frag} : AdR (rIndexT K) gIndexT := by
  intro B H v vs d ds z Q gd rv rs e
  unfold gIndexT at e
  split at e
  · rename_i us x
    split at e
    · rename_i c
      obtain ⟨j, e1, e2⟩ := Option.map_eq_some_iff.mp e
      subst e2
      obtain ⟨w, rfl, rw'⟩ := rs.one
      obtain ⟨a, oa, ys, rfl, ea, ta, ra, _⟩ := rv.tup
      obtain ⟨y, h1, h2, h3⟩ := ra.find rw' c.1 c.2 e1
      exact ⟨noslot _, fun pp => ⟨a, ys, w, j, y, rfl, rfl, ta.sq ea, rw'.flat c.1, ra.flat c.2, h1, h2, h3, pp.here (.int _)⟩⟩
    · cases e
  · cases e
/-! ### writing -/
def setC (ρ : DEnv) (i : Nat) (d : D) : DEnv := match ρ[i]? with
  | some (some (.ow _)) => ρ.set i (some (.ow d))
  | some (some (.io _)) => ρ.set i (some (.io d))
  | _ => ρ
theorem Rel.write {F : Addr → Prop} {A : Nat → Option Addr} {O : List (Option Addr)} {σ : St} {H : Hp} {ρ : DEnv} {i : Nat} {d d' : D} {p : Addr} {o' : HO} (rel : Rel F A O σ H ρ) (hc : cont ρ i = some d) (hO : O[i]? = some (some p)) (mu : Mu o') (ob : OR (Bad F A O) H o' d') :
    Tr O H O (upd H p o') ∧ Rel F A O σ (upd H p o') (setC ρ i d') := by
  have pm : some p ∈ O := mem_O.mpr ⟨i, hO⟩
  have tr : Tr O H O (upd H p o') := fun a o n e => ⟨.of (by
    have hne : a ≠ p := fun h => n (by rw [h]; exact pm)
    rw [upd_ne hne]; exact e), n⟩
  have tbs : TabsT (upd H p o') := by
    unfold cont at hc
    split at hc
    · rename_i d0 e
      obtain ⟨p', o, e1, _, _, _, e5, m5, _⟩ := rel.slot i _ e
      rw [hO] at e1; cases e1
      exact tabs_upd rel.tabs e5 m5
    · rename_i d0 e
      obtain ⟨p', o, e1, _, _, e5, m5, _⟩ := rel.slot i _ e
      rw [hO] at e1; cases e1
      exact tabs_upd rel.tabs e5 m5
    · cases hc
  have dm : ∀ a o, H a = some o → ∃ o, upd H p o' a = some o := fun a o e => by
    by_cases h : a = p
    · subst h; exact ⟨_, upd_same⟩
    · exact ⟨o, by rw [upd_ne h]; exact e⟩
  have oth : ∀ j sv, j ≠ i → ρ[j]? = some (some sv) → SlotOk F A O σ (upd H p o') j sv := fun j sv hj e => by
    have q := rel.slot j sv e
    cases sv with
    | sh d => obtain ⟨v, e1, e2⟩ := q; exact ⟨v, e1, e2.tr tr⟩
    | ow d =>
      obtain ⟨p', o, e1, e2, e3, e4, e5, m5, e6⟩ := q
      have hp : p' ≠ p := fun h => by subst h; exact hj (rel.inj j i _ e1 hO)
      exact ⟨p', o, e1, e2, e3, e4, by rw [upd_ne hp]; exact e5, m5, e6.tr tr⟩
    | io d =>
      obtain ⟨p', o, e1, e3, e4, e5, m5, e6⟩ := q
      have hp : p' ≠ p := fun h => by subst h; exact hj (rel.inj j i _ e1 hO)
      exact ⟨p', o, e1, e3, e4, by rw [upd_ne hp]; exact e5, m5, e6.tr tr⟩
  have mk : ∀ sv', SlotOk F A O σ (upd H p o') i sv' → Rel F A O σ (upd H p o') (ρ.set i (some sv')) := fun sv' ok =>
    { lenO := by rw [List.length_set]; exact rel.lenO
      lenS := by rw [List.length_set]; exact rel.lenS
      dom := fun a z => let ⟨o, e⟩ := rel.dom a z; dm a o e
      domA := fun i a z => let ⟨o, e⟩ := rel.domA i a z; dm a o e
      domO := fun i a z => let ⟨o, e⟩ := rel.domO i a z; dm a o e
      inj := rel.inj
      tabs := tbs
      slot := fun j sv e => by
        by_cases hj : j = i
        · subst hj
          rw [List.getElem?_set] at e
          split at e
          · split at e
            · cases e; exact ok
            · cases e
          · rename_i h; exact absurd rfl h
        · rw [List.getElem?_set_ne (Ne.symm hj)] at e
          exact oth j sv hj e }
  refine ⟨tr, ?_⟩
  unfold cont at hc
  split at hc
  · rename_i d0 e
    unfold setC
    rw [e]
    obtain ⟨p', o, e1, e2, e3, e4, e5, m5, e6⟩ := rel.slot i _ e
    rw [hO] at e1; cases e1
    exact mk _ ⟨p, o', hO, e2, e3, e4, upd_same, mu, ob.tr tr⟩
  · rename_i d0 e
    unfold setC
    rw [e]
    obtain ⟨p', o, e1, e3, e4, e5, m5, e6⟩ := rel.slot i _ e
    rw [hO] at e1; cases e1
    exact mk _ ⟨p, o', hO, e3, e4, upd_same, mu, ob.tr tr⟩
  · cases hc
theorem Rel.cont {F : Addr → Prop} {A : Nat → Option Addr} {O : List (Option Addr)} {σ : St} {H : Hp} {ρ : DEnv} {i : Nat} {d : D} (rel : Rel F A O σ H ρ) (hc : L3.cont ρ i = some d) : ∃ p o, O[i]? = some (some p) ∧ σ[i]? = some (some (.ref p)) ∧ H p = some o ∧ Mu o ∧ OR (Bad F A O) H o d := by
  unfold L3.cont at hc
  split at hc
  · rename_i d0 e
    cases hc
    obtain ⟨p', o, e1, e2, e3, e4, e5, m5, e6⟩ := rel.slot i _ e
    exact ⟨p', o, e1, e4, e5, m5, e6⟩
  · rename_i d0 e
    cases hc
    obtain ⟨p', o, e1, e3, e4, e5, m5, e6⟩ := rel.slot i _ e
    exact ⟨p', o, e1, e4, e5, m5, e6⟩
  · cases hc
/-- a method that writes: its answer, the new content -/
def AdM (r : V → List V → Hp → VK → Prop) (g : D → List D → Option (D × D)) : Prop := ∀ B H p o vs d ds z d' Q, H p = some o → Mu o → OR B H o d → RpAll B H vs ds → g d ds = some (z, d') → (∀ o' v, Mu o' → OR B H o' d' → Rp B H v z → Q v (upd H p o')) → r (.ref p) vs H Q
def fMut (T : Ty) (g : D → List D → Option (D × D)) (fo : M R) (fa : M (List R)) : M R := fo.bind fun x ρ => match x with
  | .slot i => match cont ρ i with
    | some d => if isTy T d = true then (fa.bind fun rs ρ2 => match cont ρ2 i, stabs rs with
      | some d2, some ds => match g d2 ds with
        | some (z, d') => some (.ok (.val z), setC ρ2 i d')
        | none => none
      | _, _ => none) ρ else none
    | none => none
  | _ => none
theorem snd_mut {K : PySem.W.Frag} {T : Ty} {r : V → List V → Hp → VK → Prop} {g : D → List D → Option (D × D)} {to : TE} {t : TA} {fo : M R} {fa : M (List R)} (ad : AdM r g) (ho : Snd mg W to fo) (ha : SndA mg W t fa) : Snd mg W (tMt K T r to t) (fMut T g fo fa) := by
  intro F A O σ H ρ rr ρ' Q rel hf post
  refine ho.then rel hf post.err fun H1 v x ρ1 t1 rel1 rb1 hf1 => ?_
  have post1 := post.tr t1
  split at hf1
  · rename_i i
    split at hf1
    · rename_i d e
      split at hf1
      · rename_i c
        refine ⟨(RB.rb (r := .slot i) rel1 rb1 e).ty c, ?_⟩
        refine ha.then rel1 hf1 post1.err fun H2 vs xs ρ2 t2 rel2 rb2 hf2 => ?_
        have post2 := post1.tr t2
        split at hf2
        · rename_i d2 ds e2 e3
          split at hf2
          · rename_i z d' e4
            cases hf2
            obtain ⟨p, hO, rfl⟩ := rb1
            obtain ⟨p', o, hO', _, hp, mu, ob⟩ := rel2.cont e2
            rw [hO] at hO'; cases hO'
            refine ad _ H2 p o vs d2 ds z d' Q hp mu ob (rb2.stabs e3) e4 fun o' v m' ob' rp => ?_
            obtain ⟨tr, rel3⟩ := rel2.write e2 hO m' ob'
            exact post2 _ v tr rel3 (rp.tr tr)
          · cases hf2
        · cases hf2
      · cases hf1
    · cases hf1
  · cases hf1
theorem ev_mut {o e : Expr} {es : List Expr} {to : TE} {t : TA} {fo : M R} {fa : M (List R)} {name : Str} {apos cpos : Pos} {T : Ty} {id : String} {r : V → List V → Hp → VK → Prop} {g : D → List D → Option (D × D)} (pa : PlainAttrs T.nm) (slot : Slot T.nm name id) (hty : typeOf (.builtin id) = pure (.type "method_descriptor")) (hm : MtR X id r) (ad : AdM r g) (ho : Ev X W o to fo) (ha : EvA X W (e :: es) t fa)
    (hbase : attributeBase o name X.env (eval o X.env) = eval o X.env := by rfl)
    (hfew : ((backTo cpos (starEach (e :: es) X.env)).all (fun x => !x.1) && (backToKw cpos (keywordEach [] X.env)).all (fun x => x.1.isSome)
      && decide ((e :: es).length + ([] : List Keyword).length + (if ([] : List Keyword).isEmpty then 0 else 1) < 30)) = true := by rfl)
    (hline : (apos.endLine == cpos.line) = true := by rfl) (hs : starEach (e :: es) X.env = (false, eval e X.env) :: starEach es X.env := by rfl) (hplain : (backTo cpos (starEach es X.env)).any (·.1) = false := by rfl) :
    Ev X W (.Call (.Attribute o name apos) (e :: es) [] cpos) (tMt X.K T r to t) (fMut T g fo fa) :=
  ⟨pe_mtW pa slot hty hm ho.pe ha.pe hbase hfew hline hs hplain, snd_mut ad ho.sd ha.sd⟩
def gAppend : D → List D → Option (D × D)
  | .lst ds, [x] => if ds.length < sizeLine then some (.non, .lst (ds ++ [x])) else none
  | _, _ => none
theorem OR.lst' {B : Addr → Prop} {H : Hp} {o : HO} {ds : List D} (h : OR B H o (.lst ds)) : ∃ vs, o = .lst vs ∧ RpAll B H vs ds := by
  cases h with
  | lst r => exact ⟨_, rfl, r⟩
theorem ad_append : AdM rAppend gAppend := by
  intro B H p o vs d ds z d' Q hp mu ob rs e k
  unfold gAppend at e
  split at e
  · rename_i xs x
    split at e
    · rename_i c
      cases e
      obtain ⟨us, rfl, r⟩ := ob.lst'
      cases rs with
      | cons r1 t1 =>
        cases t1
        exact ⟨p, us, _, rfl, rfl, hp, by rw [r.length]; exact c, k _ _ trivial (.lst (r.append (.cons r1 .nil))) .non⟩
    · cases e
  · cases e
def gPopAt : D → List D → Option (D × D)
  | .lst ds, [.int i] => match ixN ds.length i with
    | some j => match ds[j]? with
      | some x => if ds.length ≤ sizeLine then some (x, .lst (ds.eraseIdx j)) else none
      | none => none
    | none => none
  | _, _ => none
theorem ad_popAt : AdM rPopAt gPopAt := by
  intro B H p o vs d ds z d' Q hp mu ob rs e k
  unfold gPopAt at e
  split at e
  · rename_i xs i
    split at e
    · rename_i j ej
      split at e
      · rename_i x ex
        split at e
        · rename_i hz
          cases e
          obtain ⟨us, rfl, r⟩ := ob.lst'
          cases rs with
          | cons r1 t1 =>
            cases t1
            obtain ⟨s1, s2, s3, s4⟩ := ixN_seq ej
            obtain ⟨y, hy, ry⟩ := r.get ex
            have h1 : (-(2 : Int) ^ 63) = -9223372036854775808 := by decide
            have h2 : ((2 : Int) ^ 63) = 9223372036854775808 := by decide
            rw [sizeLine_eq] at hz
            refine ⟨p, us, i, j, y, rfl, by rw [Rb.int (.inl r1)], hp, ?_, ?_, by rw [r.length]; exact s1, hy, k _ _ trivial (.lst (r.erase j)) ry⟩
            · rw [h1]; omega
            · rw [h2]; omega
        · cases e
      · cases e
    · cases e
  · cases e
end
end L3

namespace L3
open PySem L2
variable [Md] [Tb]
section
variable {X : Cx} {W : WX} {mg : Str → Option Value}
/-! ### slices -/
structure EvO (X : Cx) (W : WX) (e : Option Expr) (t : TO) (f : M (Option Int)) : Prop where
  pe : PO X e t
  sd : ∀ F A O σ H ρ r ρ' (Q : Option Int → Hp → Prop), Rel F A O σ H ρ → f ρ = some (r, ρ') → (match r with
    | .ok o => ∀ H', Tr O H O H' → Rel F A O σ H' ρ' → Q o H'
    | .error x => XPost X.mg W F A O σ H ρ' x) → t σ H Q
theorem evo_none : EvO X W none tNoPart (M.pure none) := ⟨po_none, fun F A O σ H ρ r ρ' Q rel hf post => by cases hf; exact post H Tr.refl rel⟩
def fPart (f : M R) : M (Option Int) := f.bind fun r ρ => match deref ρ r with
  | some (.int i) => some (.ok (some i), ρ)
  | _ => none
theorem evo_some {e : Expr} {t : TE} {f : M R} (h : Ev X W e t f) : EvO X W (some e) (tPart t) (fPart f) := ⟨po_some h.pe, fun F A O σ H ρ r ρ' Q rel hf post => by
  refine h.sd.then rel hf (fun x e => by subst e; exact post) fun H1 v x ρ1 t1 rel1 rb hf1 => ?_
  split at hf1
  · rename_i i e
    cases hf1
    exact ⟨i, (rb.rb rel1 e).int, post H1 t1 rel1⟩
  · cases hf1⟩
def cutD (xs : List D) (lo hi : Option Int) : List D := (xs.drop (HT.sIx xs.length 0 lo)).take (HT.sIx xs.length xs.length hi - HT.sIx xs.length 0 lo)
theorem RpAll.cut {B : Addr → Prop} {H : Hp} {vs : List V} {ds : List D} (r : RpAll B H vs ds) (lo hi : Option Int) : RpAll B H (cutV vs lo hi) (cutD ds lo hi) := by
  unfold cutV cutD
  rw [r.length]
  exact (r.drop _).take _
/-- t[lo:hi] of a tuple -/
def rSlM (K : PySem.W.Frag) : V → Option Int → Option Int → Hp → VK → Prop := fun x lo hi H Q => ∃ a xs, x = .ref a ∧ SqT K H a xs ∧
  (HT.sIx xs.length 0 lo = 0 ∧ HT.sIx xs.length xs.length hi = xs.length → Q (.ref a) H) ∧ (¬ (HT.sIx xs.length 0 lo = 0 ∧ HT.sIx xs.length xs.length hi = xs.length) → ∀ p o, OT o (cutV xs lo hi) → H p = none → Q (.ref p) (upd H p o))
theorem sl_tupM : SlR X (rSlM X.K) := by
  intro pins s σ H x v vl vu lo hi sl Q I rx hs pl pu h
  obtain ⟨a, xs, rfl, hx, q1, q2⟩ := h
  cases rx
  obtain ⟨its, r, ht, hz⟩ := I.tuple hx
  have hlen : its.toArray.size = xs.length := by rw [List.size_toArray]; exact r.length.symm
  refine ⟨"tuple", _, PyProof.Rows.slot_tuple_getitem.lookup, ht.typeIs, ?_⟩
  by_cases hw : HT.sIx xs.length 0 lo = 0 ∧ HT.sIx xs.length xs.length hi = xs.length
  · exact getItem_tuple_whole ht hs pl pu (by rw [hlen]; exact hw) ⟨.ref a, H, I, rfl, q1 hw⟩
  · refine HT.getItem_tuple_cut ht hs pl pu (by rw [hlen]; exact hw) ?_ (by rw [hlen]; exact hz)
    rw [hlen]
    obtain ⟨o, ot, I2⟩ := tup_laid I (xs := cutV xs lo hi) ((r.drop (HT.sIx xs.length 0 lo)).take (HT.sIx xs.length xs.length hi - HT.sIx xs.length 0 lo)) (Nat.le_trans (cutV_length xs lo hi) hz)
    exact ⟨.ref s.heap.objs.size, _, I2, rfl, q2 hw _ o ot (I.hok.fresh (Nat.le_refl _))⟩
def rSlU (K : PySem.W.Frag) : V → Option Int → Option Int → Hp → VK → Prop := fun x lo hi H Q => (rSlL K x lo hi H Q ∨ rSlM K x lo hi H Q) ∨ rSlS x lo hi H Q
theorem sl_u : SlR X (rSlU X.K) := SlR.or (SlR.or sl_list sl_tupM) sl_str
def gSl (lo hi : Option Int) : D → Option R
  | .lst ds => some (.fresh (.lst (cutD ds lo hi)))
  | .tup ds => some (.val (.tup (cutD ds lo hi)))
  | .str z => if z.length ≤ sizeLine then some (.val (.str (cutS z lo hi))) else none
  | _ => none
theorem ad_sl {K : PySem.W.Frag} {B : Addr → Prop} {H : Hp} {v : V} {d : D} {lo hi : Option Int} {z : R} {Q : VK} (gd : ∀ p, H p = none → ¬ B p) (rv : Rb B H v d) (e : gSl lo hi d = some z) : (∀ i, z ≠ .slot i) ∧ (PP B H Q z → rSlU K v lo hi H Q) := by
  unfold gSl at e
  split at e
  · cases e
    obtain ⟨a, us, rfl, ea, ra⟩ := rv.lst
    exact ⟨noslotF _, fun pp => .inl (.inl ⟨a, us, rfl, SqL.of ea, fun p hp => pp p _ hp (.lst (ra.cut lo hi))⟩)⟩
  · cases e
    obtain ⟨a, oa, us, rfl, ea, ta, ra, na⟩ := rv.tup
    refine ⟨noslot _, fun pp => .inl (.inr ⟨a, us, rfl, ta.sq ea, fun hw => ?_, fun _ p o ot hp => pp.new gd hp (.tup ot (ra.cut lo hi))⟩)⟩
    rename_i ds
    have e1 : cutD ds lo hi = ds := by
      unfold cutD
      rw [← ra.length, hw.1, hw.2, ra.length]
      simp
    rw [e1] at pp
    exact pp.here (.ob ea na (.tup ta ra))
  · split at e
    · rename_i c
      cases e
      exact ⟨noslot _, fun pp => .inr ⟨_, rv.str, c, pp.here (.str _)⟩⟩
    · cases e
  · cases e
def fSl (f : M R) (fl fh : M (Option Int)) : M R := f.bind fun x => fl.bind fun lo => fh.bind fun hi => fun ρ => match deref ρ x with
  | some d => M.of (gSl lo hi d) ρ
  | none => none
theorem EvO.then {e : Option Expr} {t : TO} {f : M (Option Int)} {β : Type} {r : Except Exc β} {F : Addr → Prop} {A : Nat → Option Addr} {O : List (Option Addr)} {σ : St} {H : Hp} {ρ ρ' : DEnv} {g : Option Int → M β} {K : Option Int → Hp → Prop} (hs : EvO X W e t f) (rel : Rel F A O σ H ρ) (hf : M.bind f g ρ = some (r, ρ')) (pe : ∀ x, r = .error x → XPost X.mg W F A O σ H ρ' x)
    (k : ∀ H1 x ρ1, Tr O H O H1 → Rel F A O σ H1 ρ1 → g x ρ1 = some (r, ρ') → K x H1) : t σ H K := by
  unfold M.bind at hf
  split at hf
  · rename_i a ρ1 q
    exact hs.sd F A O σ H ρ _ _ K rel q fun H' t rel' => k H' a ρ1 t rel' hf
  · rename_i e ρ1 q
    cases hf
    exact hs.sd F A O σ H ρ _ _ K rel q (pe e rfl)
  · cases hf
theorem ev_sl {e : Expr} {lo hi : Option Expr} {te : TE} {tl th : TO} {f : M R} {fl fh : M (Option Int)} {p2 pos : Pos} (he : Ev X W e te f) (hl : EvO X W lo tl fl) (hh : EvO X W hi th fh) : Ev X W (.Subscript e (.Slice lo hi none p2) pos) (tSl (rSlU X.K) te tl th) (fSl f fl fh) := by
  refine ⟨pe_slice sl_u he.pe hl.pe hh.pe, ?_⟩
  intro F A O σ H ρ rr ρ' Q rel hf post
  refine he.sd.then rel hf post.err fun H1 v x ρ1 t1 rel1 rb1 hf1 => ?_
  have post1 := post.tr t1
  refine hl.then rel1 hf1 post1.err fun H2 y ρ2 t2 rel2 hf2 => ?_
  have post2 := post1.tr t2
  refine hh.then rel2 hf2 post2.err fun H3 z ρ3 t3 rel3 hf3 => ?_
  have post3 := post2.tr t3
  split at hf3
  · rename_i d e1
    unfold M.of at hf3
    split at hf3
    · rename_i q e3
      cases hf3
      obtain ⟨h1, h2⟩ := ad_sl (K := X.K) (Q := Q) (fun _ n => rel3.good n) (((rb1.tr t2).tr t3).rb rel3 e1) e3
      exact h2 (PP.post h1 rel3 post3)
    · cases hf3
  · cases hf3
/-! ### list(range(n)), list(range(a, b)) -/
def rgD (a b : Int) : List D := (List.range (b - a).toNat).map fun i => D.int (a + (i : Nat))
theorem rp_rg (B : Addr → Prop) (H : Hp) (a b : Int) : RpAll B H (rgV a b) (rgD a b) := by
  unfold rgV rgD
  generalize List.range (b - a).toNat = l
  induction l with
  | nil => exact .nil
  | cons i l ih => exact .cons (.int _) ih
def rgOk (a b : Int) : Bool := decide (-16777216 ≤ a) && (decide (a ≤ 16777216) && (decide (-16777216 ≤ b) && (decide (b ≤ 16777216) && decide ((b - a).toNat ≤ 16777216))))
theorem rgOk_ok {a b : Int} (h : rgOk a b = true) : RgOk a b := by
  unfold rgOk at h
  simp only [Bool.and_eq_true, decide_eq_true_eq] at h
  unfold RgOk
  have h2 : ((2 : Int) ^ 62) = 4611686018427387904 := by decide
  have h3 : ((2 : Nat) ^ 24) = 16777216 := by decide
  rw [h2, h3]
  omega
/-- range(..), seen by its bounds -/
structure EvG (X : Cx) (W : WX) (e : Expr) (t : St → Hp → (Int → Int → Hp → Prop) → Prop) (f : M (Int × Int)) : Prop where
  pe : PRg X e t
  sd : ∀ F A O σ H ρ r ρ' (Q : Int → Int → Hp → Prop), Rel F A O σ H ρ → f ρ = some (r, ρ') → (match r with
    | .ok o => ∀ H', Tr O H O H' → Rel F A O σ H' ρ' → Q o.1 o.2 H'
    | .error x => XPost X.mg W F A O σ H ρ' x) → t σ H Q
def fRg1 (f : M R) : M (Int × Int) := f.bind fun r ρ => match deref ρ r with
  | some (.int i) => some (.ok (0, i), ρ)
  | _ => none
def fRg2 (f g : M R) : M (Int × Int) := f.bind fun r => g.bind fun q ρ => match deref ρ r, deref ρ q with
  | some (.int i), some (.int j) => some (.ok (i, j), ρ)
  | _, _ => none
theorem evg_1 {a : Expr} {t : TE} {f : M R} {p pos : Pos} (hg : Gl X "range") (hm : X.mg "range" = none) (h : Ev X W a t f) (na : starEach [a] X.env = (false, eval a X.env) :: starEach [] X.env := by rfl) : EvG X W (.Call (.Name "range" p) [a] [] pos) (tRg1 t) (fRg1 f) := ⟨prg_1 hg hm h.pe na, fun F A O σ H ρ r ρ' Q rel hf post => by
  refine h.sd.then rel hf (fun x e => by subst e; exact post) fun H1 v x ρ1 t1 rel1 rb hf1 => ?_
  split at hf1
  · rename_i i e
    cases hf1
    exact ⟨i, (rb.rb rel1 e).int, post H1 t1 rel1⟩
  · cases hf1⟩
theorem evg_2 {a b : Expr} {t u : TE} {f g : M R} {p pos : Pos} (hg : Gl X "range") (hm : X.mg "range" = none) (h : Ev X W a t f) (h' : Ev X W b u g) (na : starEach [a, b] X.env = (false, eval a X.env) :: starEach [b] X.env := by rfl) (nb : starEach [b] X.env = (false, eval b X.env) :: starEach [] X.env := by rfl) (hp : (backTo pos (starEach [b] X.env)).any (·.1) = false := by rfl) : EvG X W (.Call (.Name "range" p) [a, b] [] pos) (tRg2 t u) (fRg2 f g) := ⟨prg_2 hg hm h.pe h'.pe na nb hp, fun F A O σ H ρ r ρ' Q rel hf post => by
  refine h.sd.then rel hf (fun x e => by subst e; exact post) fun H1 v x ρ1 t1 rel1 rb hf1 => ?_
  refine h'.sd.then rel1 hf1 (fun x e => by subst e; exact XPost.tr post t1) fun H2 w y ρ2 t2 rel2 rb2 hf2 => ?_
  split at hf2
  · rename_i i j e1 e2
    cases hf2
    exact ⟨i, j, ((rb.tr t2).rb rel2 e1).int, (rb2.rb rel2 e2).int, post H2 (t1.trans t2) rel2⟩
  · cases hf2⟩
def fListRg (f : M (Int × Int)) : M R := f.bind fun p ρ => if rgOk p.1 p.2 = true then some (.ok (.fresh (.lst (rgD p.1 p.2))), ρ) else none
theorem EvG.then {e : Expr} {t : St → Hp → (Int → Int → Hp → Prop) → Prop} {f : M (Int × Int)} {β : Type} {r : Except Exc β} {F : Addr → Prop} {A : Nat → Option Addr} {O : List (Option Addr)} {σ : St} {H : Hp} {ρ ρ' : DEnv} {g : Int × Int → M β} {K : Int → Int → Hp → Prop} (hs : EvG X W e t f) (rel : Rel F A O σ H ρ) (hf : M.bind f g ρ = some (r, ρ')) (pe : ∀ x, r = .error x → XPost X.mg W F A O σ H ρ' x)
    (k : ∀ H1 x ρ1, Tr O H O H1 → Rel F A O σ H1 ρ1 → g x ρ1 = some (r, ρ') → K x.1 x.2 H1) : t σ H K := by
  unfold M.bind at hf
  split at hf
  · rename_i a ρ1 q
    exact hs.sd F A O σ H ρ _ _ K rel q fun H' t rel' => k H' a ρ1 t rel' hf
  · rename_i e ρ1 q
    cases hf
    exact hs.sd F A O σ H ρ _ _ K rel q (pe e rfl)
  · cases hf
theorem ev_listRg {e : Expr} {t : St → Hp → (Int → Int → Hp → Prop) → Prop} {f : M (Int × Int)} {p pos : Pos} (hc : X.calm = true) (hg : Gl X "list") (hm : X.mg "list" = none) (h : EvG X W e t f) (na : starEach [e] X.env = (false, eval e X.env) :: starEach [] X.env := by rfl) : Ev X W (.Call (.Name "list" p) [e] [] pos) (tLstRg t) (fListRg f) := by
  refine ⟨pe_listRg hc hg hm h.pe na, ?_⟩
  intro F A O σ H ρ r ρ' Q rel hf post
  refine h.then rel hf post.err fun H1 x ρ1 t1 rel1 hf1 => ?_
  split at hf1
  · rename_i c
    cases hf1
    exact ⟨rgOk_ok c, fun q hq => post H1 q _ t1 rel1 hq (.lst (rp_rg _ _ _ _))⟩
  · cases hf1
end
end L3

namespace L3
open PySem L2
variable [Md] [Tb]
inductive Fl where
  | next | brk | cont | ret (d : D)
def BadR (F : Addr → Prop) (A : Nat → Option Addr) : Addr → Prop := fun a => F a ∨ ∃ i, A i = some a
section
variable {X : Cx} {W : WX} {mg : Str → Option Value}
def PostS (mg : Str → Option Value) (W : WX) (F : Addr → Prop) (A : Nat → Option Addr) (O : List (Option Addr)) (H : Hp) (ρ' : DEnv) (E : Ends) : Except Exc Fl → Prop
  | .ok .next => ∀ O' σ' H', Tr O H O' H' → Rel F A O' σ' H' ρ' → E.nx σ' H'
  | .ok .brk => ∀ O' σ' H', Tr O H O' H' → Rel F A O' σ' H' ρ' → E.bk σ' H'
  | .ok .cont => ∀ O' σ' H', Tr O H O' H' → Rel F A O' σ' H' ρ' → E.ct σ' H'
  | .ok (.ret d) => ∀ O' σ' H' v, Tr O H O' H' → Rel F A O' σ' H' ρ' → Rp (BadR F A) H' v d → E.rt v H'
  | .error x => ∀ O' σ' H' cls dd, Tr O H O' H' → Rel F A O' σ' H' ρ' → XRp mg F A O' H' x cls dd → W cls dd σ' H'
def SndS (mg : Str → Option Value) (W : WX) (t : TS) (f : M Fl) : Prop := ∀ F A O σ H ρ r ρ' E, Rel F A O σ H ρ → f ρ = some (r, ρ') → PostS mg W F A O H ρ' E r → t E σ H
theorem PostS.tr {F : Addr → Prop} {A : Nat → Option Addr} {O O1 : List (Option Addr)} {H H1 : Hp} {ρ' : DEnv} {E : Ends} {r : Except Exc Fl} (h : PostS mg W F A O H ρ' E r) (a : Tr O H O1 H1) : PostS mg W F A O1 H1 ρ' E r := by
  match r, h with
  | .ok .next, h => exact fun O' σ' H' b => h O' σ' H' (a.trans b)
  | .ok .brk, h => exact fun O' σ' H' b => h O' σ' H' (a.trans b)
  | .ok .cont, h => exact fun O' σ' H' b => h O' σ' H' (a.trans b)
  | .ok (.ret d), h => exact fun O' σ' H' v b => h O' σ' H' v (a.trans b)
  | .error x, h => exact fun O' σ' H' c d b => h O' σ' H' c d (a.trans b)
theorem PostS.err {F : Addr → Prop} {A : Nat → Option Addr} {O : List (Option Addr)} {σ : St} {H : Hp} {ρ' : DEnv} {E : Ends} {r : Except Exc Fl} (h : PostS mg W F A O H ρ' E r) : ∀ x, r = .error x → XPost mg W F A O σ H ρ' x := fun x e => by
  subst e
  exact fun H' cls dd t rel xr => h O σ H' cls dd t rel xr
structure Ex (X : Cx) (W : WX) (st : Stmt) (t : TS) (f : M Fl) : Prop where
  pe : PS X st t
  sd : SndS X.mg W t f
structure ExB (X : Cx) (W : WX) (sts : List Stmt) (t : TS) (f : M Fl) : Prop where
  pe : PSs X sts t
  sd : SndS X.mg W t f
/-! ### sequences -/
def fNext : M Fl := M.pure .next
def fSeq (f g : M Fl) : M Fl := fun ρ => match f ρ with
  | some (.ok .next, ρ1) => g ρ1
  | r => r
theorem snd_next : SndS mg W tNext fNext := fun F A O σ H ρ r ρ' E rel hf post => by cases hf; exact post O σ H Tr.refl rel
theorem snd_seq {t u : TS} {f g : M Fl} (h : SndS mg W t f) (h' : SndS mg W u g) : SndS mg W (tSeq t u) (fSeq f g) := by
  intro F A O σ H ρ r ρ' E rel hf post
  unfold fSeq at hf
  split at hf
  · rename_i ρ1 e
    exact h F A O σ H ρ _ _ { E with nx := u E } rel e fun O' σ' H' tr rel' => h' F A O' σ' H' ρ1 r ρ' E rel' hf (post.tr tr)
  · rename_i hne
    refine h F A O σ H ρ r ρ' { E with nx := u E } rel hf ?_
    match r, post, hne, hf with
    | .ok .next, post, hne, hf => exact absurd hf (hne ρ')
    | .ok .brk, post, _, _ => exact post
    | .ok .cont, post, _, _ => exact post
    | .ok (.ret d), post, _, _ => exact post
    | .error x, post, _, _ => exact post
theorem exb_nil : ExB X W [] tNext fNext := ⟨pss_nil, snd_next⟩
theorem exb_cons {st : Stmt} {rest : List Stmt} {t u : TS} {f g : M Fl} (h : Ex X W st t f) (h' : ExB X W rest u g) : ExB X W (st :: rest) (tSeq t u) (fSeq f g) := ⟨pss_cons h.pe h'.pe, snd_seq h.sd h'.sd⟩
theorem exb_one {st : Stmt} {t : TS} {f : M Fl} (h : Ex X W st t f) : ExB X W [st] t f := ⟨pss_one h.pe, h.sd⟩
theorem ex_pass {pos : Pos} : Ex X W (.Pass pos) tNext fNext := ⟨ps_pass, snd_next⟩
theorem ex_break {pos : Pos} : Ex X W (.Break pos) tBreak (M.pure .brk) := ⟨ps_break, fun F A O σ H ρ r ρ' E rel hf post => by cases hf; exact post O σ H Tr.refl rel⟩
theorem ex_continue {pos : Pos} : Ex X W (.Continue pos) tCont (M.pure .cont) := ⟨ps_continue, fun F A O σ H ρ r ρ' E rel hf post => by cases hf; exact post O σ H Tr.refl rel⟩
def fDrop (f : M R) : M Fl := f.bind fun _ => M.pure .next
theorem ex_expr {e : Expr} {te : TE} {f : M R} {pos : Pos} (h : Ev X W e te f) (hs : swapsWith e none pos.line X.env = pure false := by rfl) : Ex X W (.Expr e pos) (tDrop te) (fDrop f) := ⟨ps_expr h.pe hs, fun F A O σ H ρ r ρ' E rel hf post => by
  refine h.sd.then rel hf post.err fun H1 v x ρ1 t1 rel1 rb hf1 => ?_
  cases hf1
  exact post O σ H1 t1 rel1⟩
def fIfS (c : M Bool) (f g : M Fl) : M Fl := c.bind fun b => if b = true then f else g
theorem ex_if {c : Expr} {a b : List Stmt} {tc : TT} {t u : TS} {fc : M Bool} {f g : M Fl} {pos : Pos} (hc : EvT X W c tc fc) (ha : ExB X W a t f) (hb : ExB X W b u g) : Ex X W (.If c a b pos) (tIfS tc t u) (fIfS fc f g) := ⟨ps_if hc.pe ha.pe hb.pe, fun F A O σ H ρ r ρ' E rel hf post => by
  refine hc.sd.then rel hf post.err fun H1 x ρ1 t1 rel1 hf1 => ?_
  cases x with
  | true => exact ha.sd F A O σ H1 ρ1 r ρ' E rel1 hf1 (post.tr t1)
  | false => exact hb.sd F A O σ H1 ρ1 r ρ' E rel1 hf1 (post.tr t1)⟩
/-! ### return -/
def retD (ρ : DEnv) : R → Option D
  | .val d => some d
  | .fresh d => some d
  | .slot i => match ρ[i]? with
    | some (some (.ow d)) => some d
    | _ => none
def fRet (f : M R) : M Fl := f.bind fun r ρ => match retD ρ r with
  | some d => some (.ok (.ret d), ρ)
  | none => none
theorem Rp.ret {F : Addr → Prop} {A : Nat → Option Addr} {O : List (Option Addr)} {H : Hp} {v : V} {d : D} (r : Rp (Bad F A O) H v d) : Rp (BadR F A) H v d := Rp.mono (fun a o n e _ => ⟨e, fun z => n (by
  rcases z with z | z
  · exact .inl z
  · exact .inr (.inr z))⟩) r
theorem OR.ret {F : Addr → Prop} {A : Nat → Option Addr} {O : List (Option Addr)} {H : Hp} {v : HO} {d : D} (r : OR (Bad F A O) H v d) : OR (BadR F A) H v d := OR.mono (fun a o n e _ => ⟨e, fun z => n (by
  rcases z with z | z
  · exact .inl z
  · exact .inr (.inr z))⟩) r
theorem ex_ret {e : Expr} {te : TE} {f : M R} {pos : Pos} (h : Ev X W e te f) : Ex X W (.Return (some e) pos) (tRet te) (fRet f) := ⟨ps_ret h.pe, fun F A O σ H ρ r ρ' E rel hf post => by
  refine h.sd.then rel hf post.err fun H1 v x ρ1 t1 rel1 rb hf1 => ?_
  split at hf1
  · rename_i d e1
    cases hf1
    refine post O σ H1 v t1 rel1 ?_
    cases x with
    | val d' => cases e1; exact Rp.ret rb
    | fresh d' => cases e1; exact Rp.ret rb
    | slot i =>
      unfold retD at e1
      simp only at e1
      split at e1
      · rename_i d' q
        cases e1
        obtain ⟨p, o, h1, h2, h3, h4, h5, h6, h7⟩ := rel1.slot i _ q
        obtain ⟨p', hO, rfl⟩ := rb
        rw [h1] at hO; cases hO
        refine .ob h5 (fun z => ?_) h7.ret
        rcases z with z | ⟨j, z⟩
        · exact h2 z
        · exact h3 j z
      · cases e1
  · cases hf1⟩
theorem ex_retN {pos : Pos} : Ex X W (.Return none pos) tRetN (M.pure (.ret .non)) := ⟨ps_retN, fun F A O σ H ρ r ρ' E rel hf post => by
  cases hf
  exact post O σ H _ Tr.refl rel .non⟩
/-! ### x = e -/
def noIo (ρ : DEnv) (i : Nat) : Bool := match ρ[i]? with
  | some (some (.io _)) => false
  | some _ => true
  | none => false
/-- a shared value into a slot -/
theorem Rel.setS {F : Addr → Prop} {A : Nat → Option Addr} {O : List (Option Addr)} {σ : St} {H : Hp} {ρ : DEnv} {i : Nat} {v : V} {d : D} (rel : Rel F A O σ H ρ) (hi : i < ρ.length) (rp : Rp (Bad F A O) H v d) :
    Tr O H (O.set i none) H ∧ Rel F A (O.set i none) (σ.set i (some v)) H (ρ.set i (some (.sh d))) := by
  have hm : ∀ a, some a ∈ O.set i none → some a ∈ O := fun a h => by
    obtain ⟨j, e⟩ := mem_O.mp h
    rw [List.getElem?_set] at e
    split at e
    · split at e <;> cases e
    · exact mem_O.mpr ⟨j, e⟩
  have tr : Tr O H (O.set i none) H := fun a o n e => ⟨.of e, fun z => n (hm a z)⟩
  refine ⟨tr, ?_⟩
  have sub : ∀ (j : Nat) (p : Addr), (O.set i none)[j]? = some (some p) → j ≠ i ∧ O[j]? = some (some p) := fun j p e => by
    rw [List.getElem?_set] at e
    split at e
    · split at e <;> cases e
    · rename_i h; exact ⟨fun z => h z.symm, e⟩
  exact
    { lenO := by rw [List.length_set, List.length_set]; exact rel.lenO
      lenS := by rw [List.length_set, List.length_set]; exact rel.lenS
      dom := rel.dom
      domA := rel.domA
      tabs := rel.tabs
      domO := fun j p e => rel.domO j p (sub j p e).2
      inj := fun j k p e1 e2 => rel.inj j k p (sub j p e1).2 (sub k p e2).2
      slot := fun j sv e => by
        by_cases hj : j = i
        · subst hj
          rw [List.getElem?_set_self hi] at e
          cases e
          exact ⟨v, List.getElem?_set_self (by rw [rel.lenS]; exact hi), rp.tr tr⟩
        · rw [List.getElem?_set_ne (Ne.symm hj)] at e
          have q := rel.slot j sv e
          have hO : (O.set i none)[j]? = O[j]? := List.getElem?_set_ne (Ne.symm hj)
          have hS : (σ.set i (some v))[j]? = σ[j]? := List.getElem?_set_ne (Ne.symm hj)
          cases sv with
          | sh d => obtain ⟨u, e1, e2⟩ := q; exact ⟨u, by rw [hS]; exact e1, e2.tr tr⟩
          | ow d => obtain ⟨p, o, e1, e2, e3, e4, e5, mu, e6⟩ := q; exact ⟨p, o, by rw [hO]; exact e1, e2, e3, by rw [hS]; exact e4, e5, mu, e6.tr tr⟩
          | io d => obtain ⟨p, o, e1, e3, e4, e5, mu, e6⟩ := q; exact ⟨p, o, by rw [hO]; exact e1, e3, by rw [hS]; exact e4, e5, mu, e6.tr tr⟩ }
/-- an owned thing into a slot -/
theorem Rel.setO {F : Addr → Prop} {A : Nat → Option Addr} {O : List (Option Addr)} {σ : St} {H : Hp} {ρ : DEnv} {i : Nat} {p : Addr} {o : HO} {d : D} (rel : Rel (fun a => F a ∨ a = p) A O σ H ρ) (hi : i < ρ.length) (hF : ¬ F p) (hA : ∀ j, A j ≠ some p) (hO : some p ∉ O) (hp : H p = some o) (mu : Mu o) (ob : OR (Bad (fun a => F a ∨ a = p) A O) H o d) :
    Rel F A (O.set i (some p)) (σ.set i (some (.ref p))) H (ρ.set i (some (.ow d))) ∧ ∀ a, some a ∈ O.set i (some p) → a = p ∨ some a ∈ O := by
  have hm : ∀ a, some a ∈ O.set i (some p) → a = p ∨ some a ∈ O := fun a h => by
    obtain ⟨j, e⟩ := mem_O.mp h
    rw [List.getElem?_set] at e
    split at e
    · split at e
      · cases e; exact .inl rfl
      · cases e
    · exact .inr (mem_O.mpr ⟨j, e⟩)
  have sub : ∀ (j : Nat) (q : Addr), (O.set i (some p))[j]? = some (some q) → (j = i ∧ q = p) ∨ (j ≠ i ∧ O[j]? = some (some q)) := fun j q e => by
    rw [List.getElem?_set] at e
    split at e
    · rename_i h
      split at e
      · cases e; exact .inl ⟨h.symm, rfl⟩
      · cases e
    · rename_i h; exact .inr ⟨fun z => h z.symm, e⟩
  have bd : ∀ a u, ¬ Bad (fun a => F a ∨ a = p) A O a → H a = some u → nt u → H a = some u ∧ ¬ Bad F A (O.set i (some p)) a := fun a u n e _ => ⟨e, fun z => n (by
    rcases z with z | z | z
    · exact .inl (.inl z)
    · rcases hm a z with z | z
      · exact .inl (.inr z)
      · exact .inr (.inl z)
    · exact .inr (.inr z))⟩
  refine ⟨?_, hm⟩
  exact
    { lenO := by rw [List.length_set, List.length_set]; exact rel.lenO
      lenS := by rw [List.length_set, List.length_set]; exact rel.lenS
      dom := fun a z => rel.dom a (.inl z)
      domA := rel.domA
      tabs := rel.tabs
      domO := fun j q e => by
        rcases sub j q e with ⟨_, rfl⟩ | ⟨_, e⟩
        · exact ⟨o, hp⟩
        · exact rel.domO j q e
      inj := fun j k q e1 e2 => by
        rcases sub j q e1 with ⟨h1, h2⟩ | ⟨h1, e1⟩
        · rcases sub k q e2 with ⟨h3, h4⟩ | ⟨h3, e2⟩
          · rw [h1, h3]
          · rw [h2] at e2; exact absurd (mem_O.mpr ⟨k, e2⟩) hO
        · rcases sub k q e2 with ⟨h3, h4⟩ | ⟨h3, e2⟩
          · rw [h4] at e1; exact absurd (mem_O.mpr ⟨j, e1⟩) hO
          · exact rel.inj j k q e1 e2
      slot := fun j sv e => by
        by_cases hj : j = i
        · subst hj
          rw [List.getElem?_set_self hi] at e
          cases e
          exact ⟨p, o, List.getElem?_set_self (Nat.lt_of_lt_of_le hi rel.lenO), hF, hA, List.getElem?_set_self (by rw [rel.lenS]; exact hi), hp, mu, OR.mono bd ob⟩
        · rw [List.getElem?_set_ne (Ne.symm hj)] at e
          have q := rel.slot j sv e
          have hO' : (O.set i (some p))[j]? = O[j]? := List.getElem?_set_ne (Ne.symm hj)
          have hS : (σ.set i (some (.ref p)))[j]? = σ[j]? := List.getElem?_set_ne (Ne.symm hj)
          cases sv with
          | sh d => obtain ⟨u, e1, e2⟩ := q; exact ⟨u, by rw [hS]; exact e1, Rp.mono bd e2⟩
          | ow d => obtain ⟨p', o', e1, e2, e3, e4, e5, mu, e6⟩ := q; exact ⟨p', o', by rw [hO']; exact e1, fun z => e2 (.inl z), e3, by rw [hS]; exact e4, e5, mu, OR.mono bd e6⟩
          | io d => obtain ⟨p', o', e1, e3, e4, e5, mu, e6⟩ := q; exact ⟨p', o', by rw [hO']; exact e1, e3, by rw [hS]; exact e4, e5, mu, OR.mono bd e6⟩ }
end
end L3

namespace L3
open PySem L2
variable [Md] [Tb]
section
variable {X : Cx} {W : WX} {mg : Str → Option Value}
theorem Rel.addF {F : Addr → Prop} {A : Nat → Option Addr} {O : List (Option Addr)} {σ : St} {H : Hp} {ρ : DEnv} {p : Addr} {o : HO} (rel : Rel F A O σ H ρ) (hp : H p = none) : Rel (fun a => F a ∨ a = p) A O σ (upd H p o) ρ := by
  have bd : ∀ a u, ¬ Bad F A O a → H a = some u → nt u → upd H p o a = some u ∧ ¬ Bad (fun a => F a ∨ a = p) A O a := fun a u n e _ => ⟨same_new hp o a u e, fun z => by
    rcases z with (z | z) | z
    · exact n (.inl z)
    · subst z; rw [hp] at e; cases e
    · exact n (.inr z)⟩
  exact
    { lenO := rel.lenO
      lenS := rel.lenS
      dom := fun a z => by
        rcases z with z | rfl
        · obtain ⟨u, e⟩ := rel.dom a z; exact ⟨u, same_new hp o a u e⟩
        · exact ⟨o, upd_same⟩
      domA := fun i a z => let ⟨u, e⟩ := rel.domA i a z; ⟨u, same_new hp o a u e⟩
      domO := fun i a z => let ⟨u, e⟩ := rel.domO i a z; ⟨u, same_new hp o a u e⟩
      inj := rel.inj
      tabs := rel.tabs.ext (same_new hp o)
      slot := fun i sv e => by
        have q := rel.slot i sv e
        cases sv with
        | sh d => obtain ⟨v, e1, e2⟩ := q; exact ⟨v, e1, Rp.mono bd e2⟩
        | ow d =>
          obtain ⟨p', o', e1, e2, e3, e4, e5, mu, e6⟩ := q
          refine ⟨p', o', e1, fun z => ?_, e3, e4, same_new hp o _ _ e5, mu, OR.mono bd e6⟩
          rcases z with z | z
          · exact e2 z
          · subst z; rw [hp] at e5; cases e5
        | io d => obtain ⟨p', o', e1, e3, e4, e5, mu, e6⟩ := q; exact ⟨p', o', e1, e3, e4, same_new hp o _ _ e5, mu, OR.mono bd e6⟩ }
theorem Rel.weak {F F' : Addr → Prop} {A : Nat → Option Addr} {O : List (Option Addr)} {σ : St} {H : Hp} {ρ : DEnv} (rel : Rel F' A O σ H ρ) (h : ∀ a, F a → F' a) : Rel F A O σ H ρ := by
  have bd : ∀ a u, ¬ Bad F' A O a → H a = some u → nt u → H a = some u ∧ ¬ Bad F A O a := fun a u n e _ => ⟨e, fun z => n (by
    rcases z with z | z
    · exact .inl (h a z)
    · exact .inr z)⟩
  exact
    { lenO := rel.lenO
      lenS := rel.lenS
      dom := fun a z => rel.dom a (h a z)
      domA := rel.domA
      domO := rel.domO
      inj := rel.inj
      tabs := rel.tabs
      slot := fun i sv e => by
        have q := rel.slot i sv e
        cases sv with
        | sh d => obtain ⟨v, e1, e2⟩ := q; exact ⟨v, e1, Rp.mono bd e2⟩
        | ow d =>
          obtain ⟨p', o', e1, e2, e3, e4, e5, mu, e6⟩ := q
          exact ⟨p', o', e1, fun z => e2 (h _ z), e3, e4, e5, mu, OR.mono bd e6⟩
        | io d => obtain ⟨p', o', e1, e3, e4, e5, mu, e6⟩ := q; exact ⟨p', o', e1, e3, e4, e5, mu, OR.mono bd e6⟩ }
theorem XRp.weak {F F' : Addr → Prop} {A : Nat → Option Addr} {O : List (Option Addr)} {H : Hp} {x : Exc} {c : Value} {dd : Option Addr} (h : ∀ a, F a → F' a) (r : XRp mg F' A O H x c dd) : XRp mg F A O H x c dd := by
  obtain ⟨h1, h2⟩ := r
  refine ⟨h1, ?_⟩
  revert h2
  cases x.2 with
  | none => exact id
  | some fd =>
    rintro ⟨q, v, e1, e2, e3⟩
    refine ⟨q, v, e1, e2, Rp.mono (fun a u n e _ => ⟨e, fun z => n ?_⟩) e3⟩
    rcases z with z | z
    · exact .inl (h a z)
    · exact .inr z
/-! ### arguments that stay fresh -/
def muD : D → Bool
  | .lst _ => true
  | .dK _ => true
  | .dT _ => true
  | _ => false
theorem OR.mu {B : Addr → Prop} {H : Hp} {o : HO} {d : D} (h : OR B H o d) (m : muD d = true) : Mu o := by
  cases h with
  | lst _ => exact trivial
  | tup _ _ => cases m
  | dK _ => exact trivial
  | dT _ => exact trivial
inductive RFs (F : Addr → Prop) (A : Nat → Option Addr) (O : List (Option Addr)) (H : Hp) : List Addr → List V → List R → Prop
  | nil : RFs F A O H [] [] []
  | val {ps : List Addr} {v : V} {d : D} {vs : List V} {rs : List R} : Rp (Bad F A O) H v d → RFs F A O H ps vs rs → RFs F A O H ps (v :: vs) (.val d :: rs)
  | fresh {ps : List Addr} {p : Addr} {o : HO} {d : D} {vs : List V} {rs : List R} : H p = some o → OR (Bad F A O) H o d → RFs F A O H ps vs rs → RFs F A O H (p :: ps) (.ref p :: vs) (.fresh d :: rs)
  | slot {ps : List Addr} {v : V} {i : Nat} {vs : List V} {rs : List R} : RFs F A O H ps vs rs → RFs F A O H ps (v :: vs) (.slot i :: rs)
theorem RFs.mono {F F' : Addr → Prop} {A : Nat → Option Addr} {O O' : List (Option Addr)} {H H' : Hp} (bd : ∀ a u, ¬ Bad F A O a → H a = some u → nt u → H' a = some u ∧ ¬ Bad F' A O' a) :
    ∀ {ps : List Addr} {vs : List V} {rs : List R}, (∀ p ∈ ps, ∀ o, H p = some o → nt o → H' p = some o) → RFs F A O H ps vs rs → RFs F' A O' H' ps vs rs
  | _, _, _, _, .nil => .nil
  | _, _, _, k, .val r t => .val (Rp.mono bd r) (RFs.mono bd k t)
  | _, _, _, k, .fresh e r t => .fresh (k _ List.mem_cons_self _ e r.nt) (OR.mono bd r) (RFs.mono bd (fun p hp => k p (List.mem_cons_of_mem _ hp)) t)
  | _, _, _, k, .slot t => .slot (RFs.mono bd k t)
/-- the owned slots among the arguments -/
def SlA (O : List (Option Addr)) (vs : List V) (rs : List R) : Prop := ∀ (k i : Nat), rs[k]? = some (.slot i) → ∃ p, O[i]? = some (some p) ∧ vs[k]? = some (.ref p)
theorem SlA.cons {O : List (Option Addr)} {vs : List V} {rs : List R} {v : V} {r : R} (h : SlA O vs rs) (hr : ∀ i, r = .slot i → ∃ p, O[i]? = some (some p) ∧ v = .ref p) : SlA O (v :: vs) (r :: rs) := by
  intro k i e
  cases k with
  | zero =>
    obtain ⟨p, h1, h2⟩ := hr i (Option.some.inj e)
    exact ⟨p, h1, by rw [h2]; rfl⟩
  | succ k => exact h k i e
abbrev FU (F : Addr → Prop) (ps : List Addr) : Addr → Prop := fun a => F a ∨ a ∈ ps
def SndF (mg : Str → Option Value) (W : WX) (t : TA) (f : M (List R)) : Prop := ∀ F A O σ H ρ r ρ' Q, Rel F A O σ H ρ → f ρ = some (r, ρ') → (match r with
  | .ok rs => ∀ H' vs ps, Tr O H O H' → Rel (FU F ps) A O σ H' ρ' → (∀ p ∈ ps, H p = none) → ps.Nodup → RFs (FU F ps) A O H' ps vs rs → SlA O vs rs → Q vs H'
  | .error x => XPost mg W F A O σ H ρ' x) → t σ H Q
structure EvF (X : Cx) (W : WX) (es : List Expr) (t : TA) (f : M (List R)) : Prop where
  pe : PA X es t
  sd : SndF X.mg W t f
theorem FU_nil (F : Addr → Prop) : FU F [] = F := by funext a; simp [FU]
theorem FU_cons (F : Addr → Prop) (p : Addr) (ps : List Addr) : FU (fun a => F a ∨ a = p) ps = FU F (p :: ps) := by funext a; simp [FU, or_assoc]
theorem evf_nil : EvF X W [] tNil fNil := ⟨pa_nil, fun F A O σ H ρ r ρ' Q rel hf post => by
  cases hf
  exact post H [] [] Tr.refl (by rw [FU_nil]; exact rel) (fun p hp => by cases hp) List.nodup_nil .nil (fun k i e => by cases e)⟩
theorem evf_cons {e : Expr} {es : List Expr} {te : TE} {t : TA} {f : M R} {g : M (List R)} (h : Ev X W e te f) (h' : EvF X W es t g) (hs : starEach (e :: es) X.env = (false, eval e X.env) :: starEach es X.env := by rfl) : EvF X W (e :: es) (tCons te t) (fCons f g) := by
  refine ⟨pa_cons h.pe h'.pe hs, ?_⟩
  intro F A O σ H ρ r ρ' Q rel hf post
  unfold fCons M.bind at hf
  split at hf
  · rename_i a ρ1 q
    have nx : ∀ (H1 : Hp) (v : V) (F1 : Addr → Prop) (ks : List Addr), Tr O H O H1 → Rel F1 A O σ H1 ρ1 → (∀ a, F a → F1 a) → (∀ ps, FU F1 ps = FU F (ks ++ ps)) → (∀ p ∈ ks, H p = none ∧ ∃ o, H1 p = some o) → ks.Nodup → (∀ i, a = .slot i → ∃ p, O[i]? = some (some p) ∧ v = .ref p) →
        (∀ (H2 : Hp) (vs : List V) (rs : List R) (ps : List Addr), Tr O H1 O H2 → (∀ p ∈ ps, H1 p = none) → RFs (FU F1 ps) A O H2 ps vs rs → RFs (FU F1 ps) A O H2 (ks ++ ps) (v :: vs) (a :: rs)) → t σ H1 fun vs H2 => Q (v :: vs) H2 := by
      intro H1 v F1 ks t1 rel1 hw hU hk hn hsl mk
      simp only at hf
      split at hf
      · rename_i rs ρ2 q2
        cases hf
        refine h'.sd F1 A O σ H1 ρ1 _ _ _ rel1 q2 fun H2 vs ps t2 rel2 np nd rf sl => ?_
        refine post H2 (v :: vs) (ks ++ ps) (t1.trans t2) (by rw [← hU]; exact rel2) (fun p hp => ?_) ?_ (by rw [← hU]; exact mk H2 vs rs ps t2 np rf) (sl.cons hsl)
        · rcases List.mem_append.mp hp with hp | hp
          · exact (hk p hp).1
          · cases e : H p with
            | none => rfl
            | some o =>
              have hO : some p ∈ O ∨ some p ∉ O := Classical.em _
              rcases hO with hO | hO
              · obtain ⟨i, hi⟩ := mem_O.mp hO
                obtain ⟨o', ho⟩ := rel1.domO i p hi
                rw [np p hp] at ho; cases ho
              · obtain ⟨o', z⟩ := t1.ex hO e
                rw [np p hp] at z; cases z
        · refine List.nodup_append.mpr ⟨hn, nd, fun a ha b hb hab => ?_⟩
          subst hab
          obtain ⟨_, o, e⟩ := hk a ha
          rw [np a hb] at e; cases e
      · rename_i x ρ2 q2
        cases hf
        refine h'.sd F1 A O σ H1 ρ1 _ _ _ rel1 q2 fun H2 cls dd t2 rel2 xr => ?_
        exact post H2 cls dd (t1.trans t2) (rel2.weak hw) (xr.weak hw)
      · cases hf
    refine h.sd F A O σ H ρ _ _ _ rel q ?_
    match a, nx with
    | .val d, nx =>
      intro H1 v t1 rel1 rp
      refine nx H1 v F [] t1 rel1 (fun _ z => z) (fun ps => rfl) (fun p hp => by cases hp) List.nodup_nil (fun i e => by cases e) fun H2 vs rs ps t2 np rf => .val (Rp.mono (fun a u n e ht => by
        have z := Bad.tr (F := F) (A := A) t2 a u n e ht
        refine ⟨z.1, fun b => ?_⟩
        rcases b with (b | b) | b
        · exact n (.inl b)
        · rw [np a b] at e; cases e
        · exact n (.inr b)) rp) rf
    | .slot i, nx => exact fun H1 p t1 rel1 hO => nx H1 (.ref p) F [] t1 rel1 (fun _ z => z) (fun ps => rfl) (fun p hp => by cases hp) List.nodup_nil (fun j e => by cases e; exact ⟨p, hO, rfl⟩) fun H2 vs rs ps t2 np rf => .slot rf
    | .fresh d, nx =>
        intro H1 p o t1 rel1 hn ob
        have s := same_new hn o
        have hb : ¬ Bad F A O p := rel1.good hn
        refine nx (upd H1 p o) (.ref p) (fun a => F a ∨ a = p) [p] (t1.trans (Tr.same s)) (rel1.addF hn) (fun _ z => .inl z) (fun ps => FU_cons F p ps) (fun a ha => ?_) (by simp) (fun i e => by cases e) fun H2 vs rs ps t2 np rf => ?_
        · rw [List.mem_singleton.mp ha]
          refine ⟨?_, o, upd_same⟩
          cases e : H p with
          | none => rfl
          | some o' =>
            obtain ⟨o'', z⟩ := t1.ex (fun z => hb (.inr (.inl z))) e
            rw [hn] at z; cases z
        · have hp2 : H2 p = some o := t2.at (fun z => hb (.inr (.inl z))) upd_same ob.nt
          refine .fresh hp2 (OR.mono (fun a u n e ht => ?_) ob) rf
          have z := Bad.tr (F := F) (A := A) ((Tr.same s).trans t2) a u n e ht
          refine ⟨z.1, fun b => ?_⟩
          rcases b with ((b | b) | b) | b
          · exact n (.inl b)
          · subst b; rw [hn] at e; cases e
          · have e2 := s a u e
            rw [np a b] at e2; cases e2
          · exact n (.inr b)
  · rename_i x ρ1 q
    cases hf
    exact h.sd F A O σ H ρ _ _ _ rel q post
  · cases hf
/-- a shared argument -/
def fVal (f : M R) : M R := f.bind fun r ρ => match stab r with
  | some d => some (.ok (.val d), ρ)
  | none => none
theorem snd_val {t : TE} {f : M R} (h : Snd mg W t f) : Snd mg W t (fVal f) := by
  intro F A O σ H ρ r ρ' Q rel hf post
  refine h.then rel hf post.err fun H1 v x ρ1 t1 rel1 rb hf1 => ?_
  split at hf1
  · rename_i d e
    cases hf1
    exact post H1 v t1 rel1 (rb.stab e)
  · cases hf1
theorem ev_val {e : Expr} {t : TE} {f : M R} (h : Ev X W e t f) : Ev X W e t (fVal f) := ⟨h.pe, snd_val h.sd⟩
end
end L3

namespace L3
open PySem L2
variable [Md] [Tb]
section
variable {X : Cx} {W : WX} {mg : Str → Option Value}
/-- what goes into a slot: shared (false), owned (true) -/
def asgR (own : Bool) : R → Option SV
  | .val d => if own = true then none else some (.sh d)
  | .fresh d => if own = true then (if muD d = true then some (.ow d) else none) else some (.sh d)
  | .slot _ => none
def asgAll : List (Nat × Bool) → List R → DEnv → Option DEnv
  | [], [], ρ => some ρ
  | (i, b) :: ts, r :: rs, ρ => match asgR b r with
    | some sv => if noIo ρ i = true then asgAll ts rs (ρ.set i (some sv)) else none
    | none => none
  | _, _, _ => none
def setAll : List (Nat × Bool) → List V → St → St
  | (i, _) :: ts, v :: vs, σ => setAll ts vs (σ.set i (some v))
  | _, _, σ => σ
def fPar (ts : List (Nat × Bool)) (f : M (List R)) : M Fl := f.bind fun rs ρ => match asgAll ts rs ρ with
  | some ρ1 => some (.ok .next, ρ1)
  | none => none
theorem noIo_lt {ρ : DEnv} {i : Nat} (h : noIo ρ i = true) : i < ρ.length := by
  unfold noIo at h
  split at h
  · cases h
  · rename_i e; exact (List.getElem?_eq_some_iff.mp e).1
  · cases h
theorem asgAll_ok {F : Addr → Prop} {A : Nat → Option Addr} {H : Hp} : ∀ (ts : List (Nat × Bool)) (ps : List Addr) (vs : List V) (rs : List R) (O : List (Option Addr)) (σ : St) (ρ ρ' : DEnv), Rel (FU F ps) A O σ H ρ → RFs (FU F ps) A O H ps vs rs → ps.Nodup →
    (∀ p ∈ ps, ¬ F p ∧ (∀ j, A j ≠ some p) ∧ some p ∉ O) → asgAll ts rs ρ = some ρ' → ∃ O', Rel F A O' (setAll ts vs σ) H ρ' ∧ vs.length = ts.length ∧ ∀ a, some a ∈ O' → some a ∈ O ∨ a ∈ ps
  | [], ps, vs, rs, O, σ, ρ, ρ', rel, rf, nd, hps, e => by
    cases rs with
    | nil =>
      cases e
      cases rf
      rw [FU_nil] at rel
      exact ⟨O, rel, rfl, fun a h => .inl h⟩
    | cons _ _ => cases e
  | (i, b) :: ts, ps, vs, rs, O, σ, ρ, ρ', rel, rf, nd, hps, e => by
    cases rs with
    | nil => cases e
    | cons r rs =>
      unfold asgAll at e
      split at e
      · rename_i sv e1
        split at e
        · rename_i c
          have hi := noIo_lt c
          cases rf with
          | val rp rf =>
            rename_i v d vs
            unfold asgR at e1
            simp only at e1
            split at e1
            · cases e1
            · cases e1
              obtain ⟨tr, rel2⟩ := rel.setS hi rp
              have hsub : ∀ a, some a ∈ O.set i none → some a ∈ O := fun a h => by
                obtain ⟨j, e⟩ := mem_O.mp h
                rw [List.getElem?_set] at e
                split at e
                · split at e <;> cases e
                · exact mem_O.mpr ⟨j, e⟩
              obtain ⟨O', h1, h2, h3⟩ := asgAll_ok ts ps vs rs (O.set i none) (σ.set i (some v)) _ ρ' rel2 (rf.mono (Bad.tr tr) (fun _ _ _ e _ => e)) nd (fun p hp => ⟨(hps p hp).1, (hps p hp).2.1, fun z => (hps p hp).2.2 (hsub p z)⟩) e
              exact ⟨O', h1, by simp [h2], fun a h => by
                rcases h3 a h with h | h
                · exact .inl (hsub a h)
                · exact .inr h⟩
          | slot rf => cases e1
          | fresh hp ob rf =>
            rename_i ps p o d vs
            obtain ⟨nd1, nd2⟩ := List.nodup_cons.mp nd
            obtain ⟨hF, hA, hO⟩ := hps p List.mem_cons_self
            have eF : FU F (p :: ps) = fun a => FU F ps a ∨ a = p := by
              funext a
              refine propext ⟨fun z => ?_, fun z => ?_⟩
              · rcases z with z | z
                · exact .inl (.inl z)
                · rcases List.mem_cons.mp z with z | z
                  · exact .inr z
                  · exact .inl (.inr z)
              · rcases z with (z | z) | z
                · exact .inl z
                · exact .inr (List.mem_cons_of_mem _ z)
                · exact .inr (by rw [z]; exact List.mem_cons_self)
            have hFp : ¬ FU F ps p := fun z => by
              rcases z with z | z
              · exact hF z
              · exact nd1 z
            unfold asgR at e1
            simp only at e1
            split at e1
            · split at e1
              · rename_i m
                cases e1
                rw [eF] at rel ob rf
                obtain ⟨rel2, hsub⟩ := rel.setO hi hFp hA hO hp (ob.mu m) ob
                have bd : ∀ a u, ¬ Bad (fun a => FU F ps a ∨ a = p) A O a → H a = some u → nt u → H a = some u ∧ ¬ Bad (FU F ps) A (O.set i (some p)) a := fun a u n e _ => ⟨e, fun z => n (by
                  rcases z with z | z | z
                  · exact .inl (.inl z)
                  · rcases hsub a z with z | z
                    · exact .inl (.inr z)
                    · exact .inr (.inl z)
                  · exact .inr (.inr z))⟩
                obtain ⟨O', h1, h2, h3⟩ := asgAll_ok ts ps vs rs (O.set i (some p)) (σ.set i (some (.ref p))) _ ρ' rel2 (rf.mono bd (fun _ _ _ e _ => e)) nd2 (fun q hq => ⟨(hps q (List.mem_cons_of_mem _ hq)).1, (hps q (List.mem_cons_of_mem _ hq)).2.1, fun z => by
                  rcases hsub q z with z | z
                  · subst z; exact nd1 hq
                  · exact (hps q (List.mem_cons_of_mem _ hq)).2.2 z⟩) e
                exact ⟨O', h1, by simp [h2], fun a h => by
                  rcases h3 a h with h | h
                  · rcases hsub a h with h | h
                    · exact .inr (by rw [h]; exact List.mem_cons_self)
                    · exact .inl h
                  · exact .inr (List.mem_cons_of_mem _ h)⟩
              · cases e1
            · cases e1
              have rel1 : Rel (FU F ps) A O σ H ρ := rel.weak fun a z => by
                rcases z with z | z
                · exact .inl z
                · exact .inr (List.mem_cons_of_mem _ z)
              have bd : ∀ a u, ¬ Bad (FU F (p :: ps)) A O a → H a = some u → nt u → H a = some u ∧ ¬ Bad (FU F ps) A O a := fun a u n e _ => ⟨e, fun z => n (by
                rcases z with (z | z) | z
                · exact .inl (.inl z)
                · exact .inl (.inr (List.mem_cons_of_mem _ z))
                · exact .inr z)⟩
              have rp : Rp (Bad (FU F ps) A O) H (.ref p) d := .ob hp (fun z => by
                rcases z with z | z | ⟨j, z⟩
                · exact hFp z
                · exact hO z
                · exact hA j z) (OR.mono bd ob)
              obtain ⟨tr, rel2⟩ := rel1.setS hi rp
              have hsub : ∀ a, some a ∈ O.set i none → some a ∈ O := fun a h => by
                obtain ⟨j, e⟩ := mem_O.mp h
                rw [List.getElem?_set] at e
                split at e
                · split at e <;> cases e
                · exact mem_O.mpr ⟨j, e⟩
              obtain ⟨O', h1, h2, h3⟩ := asgAll_ok ts ps vs rs (O.set i none) (σ.set i (some (.ref p))) _ ρ' rel2 ((rf.mono bd (fun _ _ _ e _ => e)).mono (Bad.tr tr) (fun _ _ _ e _ => e)) nd2 (fun q hq => ⟨(hps q (List.mem_cons_of_mem _ hq)).1, (hps q (List.mem_cons_of_mem _ hq)).2.1, fun z => (hps q (List.mem_cons_of_mem _ hq)).2.2 (hsub q z)⟩) e
              exact ⟨O', h1, by simp [h2], fun a h => by
                rcases h3 a h with h | h
                · exact .inl (hsub a h)
                · exact .inr (List.mem_cons_of_mem _ h)⟩
        · cases e
      · cases e
theorem par_ok {es : List Expr} {t : TA} {f : M (List R)} {ts : List (Nat × Bool)} (h : EvF X W es t f) {F : Addr → Prop} {A : Nat → Option Addr} {O : List (Option Addr)} {σ : St} {H : Hp} {ρ : DEnv} {r : Except Exc Fl} {ρ' : DEnv} {E : Ends} (rel : Rel F A O σ H ρ) (hf : fPar ts f ρ = some (r, ρ')) (post : PostS X.mg W F A O H ρ' E r) {K : List V → Hp → Prop}
    (k : ∀ vs H1, vs.length = ts.length → E.nx (setAll ts vs σ) H1 → K vs H1) : t σ H K := by
  unfold fPar M.bind at hf
  split at hf
  · rename_i rs ρ1 q
    refine h.sd F A O σ H ρ _ _ _ rel q fun H' vs ps tr rel' np nd rf _ => ?_
    simp only at hf
    split at hf
    · rename_i ρ2 e
      cases hf
      have bad : ∀ p ∈ ps, ¬ Bad F A O p := fun p hp => rel.good (np p hp)
      obtain ⟨O', h1, h2, h3⟩ := asgAll_ok ts ps vs rs O σ ρ1 ρ' rel' rf nd (fun p hp => ⟨fun z => bad p hp (.inl z), fun j z => bad p hp (.inr (.inr ⟨j, z⟩)), fun z => bad p hp (.inr (.inl z))⟩) e
      refine k vs H' h2 (post O' _ H' (fun a o n e => ⟨(tr a o n e).1, fun z => ?_⟩) h1)
      rcases h3 a z with z | z
      · exact n z
      · rw [np a z] at e; cases e
    · cases hf
  · rename_i x ρ1 q
    cases hf
    exact h.sd F A O σ H ρ _ _ _ rel q fun H' cls dd tr rel' xr => post O σ H' cls dd tr rel' xr
  · cases hf
/-- x = e -/
theorem ex_set {i : Nat} (own : Bool) {x : Str} {e : Expr} {te : TE} {f : M R} {pos' pos : Pos} (hN : X.N.Nodup) (hi : X.N[i]? = some x) (hx : Loc X.env.scope x) (he : Ev X W e te f) (hs : swapsWith e (some (.Name x pos')) pos.line X.env = pure false := by rfl) (hf : X.fn x = true ∨ X.env.scope.names.lookup x = some .local := by first | exact .inl rfl | exact .inr rfl | assumption) (hst : starEach [e] X.env = (false, eval e X.env) :: starEach [] X.env := by rfl) :
    Ex X W (.Assign [.Name x pos'] e pos) (tAsg te (gName i)) (fPar [(i, own)] (fCons f fNil)) := by
  refine ⟨ps_set hN hi hx he.pe hs hf, ?_⟩
  intro F A O σ H ρ r ρ' E rel hq post
  exact par_ok (K := fun vs H1 => match vs with
    | [v] => E.nx (σ.set i (some v)) H1
    | _ => False) (evf_cons he evf_nil hst) rel hq post fun vs H1 hl h => by
    match vs, hl, h with
    | [v], _, h => exact h
theorem ex_par2 {i j : Nat} (bi bj : Bool) {x y : Str} {a b : Expr} {ta : TA} {f : M (List R)} {px py pt pos : Pos} {kt k2 : Nat} {pt2 : Pos} (hc : X.calm = true) (hN : X.N.Nodup) (hi : X.N[i]? = some x) (hj : X.N[j]? = some y) (hij : i ≠ j)
    (hx : X.env.scope.names.lookup x = some .local) (hy : X.env.scope.names.lookup y = some .local) (ha : EvF X W [a, b] ta f)
    (hw : swappedStores [.Tuple [.Name x px, .Name y py] kt pt] (.Tuple [a, b] k2 pt2) X.env = pure (some [x, y]))
    (hs : swapsWithSole [.Tuple [.Name x px, .Name y py] kt pt] (.Tuple [a, b] k2 pt2) pos.line X.env = pure false := by rfl) :
    Ex X W (.Assign [.Tuple [.Name x px, .Name y py] kt pt] (.Tuple [a, b] k2 pt2) pos) (tPar i j ta) (fPar [(i, bi), (j, bj)] f) := by
  refine ⟨ps_par hc hN hi hj hij hx hy ha.pe hw hs, ?_⟩
  intro F A O σ H ρ r ρ' E rel hq post
  exact par_ok ha rel hq post fun vs H1 hl h => by
    match vs, hl, h with
    | [v, w], _, h => exact ⟨v, w, rfl, h⟩
theorem ex_par3 {i j l : Nat} (bi bj bl : Bool) {x y z : Str} {a b c : Expr} {ta : TA} {f : M (List R)} {px py pz pt pos : Pos} {kt k2 : Nat} {pt2 : Pos} (hc : X.calm = true) (hN : X.N.Nodup) (hi : X.N[i]? = some x) (hj : X.N[j]? = some y) (hl : X.N[l]? = some z) (hij : i ≠ j) (hil : i ≠ l) (hjl : j ≠ l)
    (hx : X.env.scope.names.lookup x = some .local) (hy : X.env.scope.names.lookup y = some .local) (hz : X.env.scope.names.lookup z = some .local) (ha : EvF X W [a, b, c] ta f)
    (hw : swappedStores [.Tuple [.Name x px, .Name y py, .Name z pz] kt pt] (.Tuple [a, b, c] k2 pt2) X.env = pure (some [x, y, z]))
    (hs : swapsWithSole [.Tuple [.Name x px, .Name y py, .Name z pz] kt pt] (.Tuple [a, b, c] k2 pt2) pos.line X.env = pure false := by rfl) :
    Ex X W (.Assign [.Tuple [.Name x px, .Name y py, .Name z pz] kt pt] (.Tuple [a, b, c] k2 pt2) pos) (tPar3 i j l ta) (fPar [(i, bi), (j, bj), (l, bl)] f) := by
  refine ⟨ps_par3 hc hN hi hj hl hij hil hjl hx hy hz ha.pe hw hs, ?_⟩
  intro F A O σ H ρ r ρ' E rel hq post
  exact par_ok ha rel hq post fun vs H1 hl h => by
    match vs, hl, h with
    | [u, v, w], _, h => exact ⟨u, v, w, rfl, h⟩
end
end L3

namespace L3
open PySem L2
variable [Md] [Tb]
section
variable {X : Cx} {W : WX} {mg : Str → Option Value}
/-! ### o[i] = e -/
def rSetU : TSet := fun o i v H Q => rSetL o i v H Q ∨ rSetD o i v H Q
theorem set_u (hu : X.A.units + 65 < cLine) : PSet X rSetU := by
  intro pins s σ H o i v ov iv u Q I ro ri rv h
  rcases h with h | h
  · exact set_list pins s σ H o i v ov iv u Q I ro ri rv h
  · exact set_dict (by omega) pins s σ H o i v ov iv u Q I ro ri rv h
def putAt : D → D → D → Option D
  | .lst ds, .int k, x => (ixN ds.length k).map fun j => .lst (ds.set j x)
  | .dK kvs, y, x => match keyD y with
    | some k => if kvs.length < sizeLine then some (.dK (putD kvs k x)) else none
    | none => none
  | .dT kvs, .tup ks, x => if Md.fz = true then none else match keysD ks with
    | some k => if kvs.length < sizeLine then some (.dT (putD kvs k x)) else none
    | none => none
  | _, _, _ => none
theorem OR.dK' {B : Addr → Prop} {H : Hp} {o : HO} {ds : List (Key × D)} (h : OR B H o (.dK ds)) : ∃ vs, o = .dK vs ∧ RpK B H vs ds := by
  cases h with
  | dK r => exact ⟨_, rfl, r⟩
theorem OR.dT' {B : Addr → Prop} {H : Hp} {o : HO} {ds : List (List Key × D)} (h : OR B H o (.dT ds)) : ∃ vs, o = .dT vs ∧ RpT B H vs ds := by
  cases h with
  | dT r => exact ⟨_, rfl, r⟩
theorem ad_put {B : Addr → Prop} {H : Hp} {p : Addr} {o : HO} {iv v : V} {d k x d' : D} {Q : Hp → Prop} (hp : H p = some o) (ob : OR B H o d) (ri : Rb B H iv k) (rv : Rp B H v x) (e : putAt d k x = some d') (q : ∀ o', Mu o' → OR B H o' d' → Q (upd H p o')) : rSetU (.ref p) iv v H Q := by
  unfold putAt at e
  split at e
  · obtain ⟨j, e1, e2⟩ := Option.map_eq_some_iff.mp e
    subst e2
    obtain ⟨vs, rfl, r⟩ := ob.lst'
    exact .inl ⟨p, vs, _, j, rfl, ri.int, hp, by rw [r.length]; exact e1, q (.lst _) trivial (.lst (r.set rv j))⟩
  · split at e
    · rename_i k ek
      split at e
      · rename_i c
        cases e
        obtain ⟨vs, rfl, r⟩ := ob.dK'
        refine .inr ⟨p, _, rfl, ?_, q (.dK _) trivial (.dK (r.put rv))⟩
        rw [ri.key ek]
        exact DPut.k hp (by rw [r.length]; exact c)
      · cases e
    · cases e
  · split at e
    · cases e
    · rename_i md
      split at e
      · rename_i k ek
        split at e
        · rename_i c
          cases e
          obtain ⟨vs, rfl, r⟩ := ob.dT'
          obtain ⟨b, ob', ws, rfl, eb, ot, rb, _⟩ := ri.tup
          have hm : Md.fz = false := by cases h : Md.fz <;> first | rfl | exact absurd h md
          exact .inr ⟨p, _, rfl, DPut.t hp (by rw [eb, ot.tup hm, rb.keys ek]) (by rw [r.length]; exact c), q (.dT _) trivial (.dT (r.put rv))⟩
        · cases e
      · cases e
  · cases e
def fStore (fe fo fi : M R) : M Fl := fe.bind fun r => fo.bind fun o => fi.bind fun i => fun ρ => match o with
  | .slot s => match cont ρ s, stab r, deref ρ i with
    | some d, some x, some k => match putAt d k x with
      | some d' => some (.ok .next, setC ρ s d')
      | none => none
    | _, _, _ => none
  | _ => none
theorem ex_store {o i e : Expr} {to ti te : TE} {fo fi fe : M R} {pos pos' : Pos} (hu : X.A.units + 65 < cLine) (ho : Ev X W o to fo) (hi : Ev X W i ti fi) (he : Ev X W e te fe)
    (ha : ∀ v, assign (.Subscript o i pos') X.env v = (do
      let ov ← holding [v] (eval o X.env)
      let iv ← holding [v, ov] (eval i X.env)
      standAt pos'
      holding [v, ov, iv] (setItem ov iv v)
      release [v, ov, iv] []) := by intro _; rfl)
    (hs : swapsWithSole [.Subscript o i pos'] e pos.line X.env = pure false := by rfl) (hw : swappedStores [.Subscript o i pos'] e X.env = pure none := by rfl)
    (h1 : (assignEach [.Subscript o i pos'] X.env).map (·.2) = [assign (.Subscript o i pos') X.env] := by rfl) :
    Ex X W (.Assign [.Subscript o i pos'] e pos) (tAsg te (L2.gSub to ti rSetU)) (fStore fe fo fi) := by
  refine ⟨ps_asg he.pe (pg_sub ho.pe hi.pe (set_u hu) ha) hs hw h1, ?_⟩
  intro F A O σ H ρ r ρ' E rel hf post
  refine he.sd.then rel hf post.err fun H1 v x ρ1 t1 rel1 rb1 hf1 => ?_
  have post1 := post.tr t1
  refine ho.sd.then rel1 hf1 post1.err fun H2 w y ρ2 t2 rel2 rb2 hf2 => ?_
  have post2 := post1.tr t2
  refine hi.sd.then rel2 hf2 post2.err fun H3 u z ρ3 t3 rel3 rb3 hf3 => ?_
  have post3 := post2.tr t3
  split at hf3
  · rename_i s
    split at hf3
    · rename_i d xd k e1 e2 e3
      split at hf3
      · rename_i d' e4
        cases hf3
        obtain ⟨p, hO, rfl⟩ := rb2
        obtain ⟨p', ob, hO', _, hp, mu, orr⟩ := rel3.cont e1
        rw [hO] at hO'; cases hO'
        refine ad_put hp orr (rb3.rb rel3 e3) (((rb1.tr t2).tr t3).stab e2) e4 fun o' m' ob' => ?_
        obtain ⟨tr, rel4⟩ := rel3.write e1 hO m' ob'
        exact post3 O σ _ tr rel4
      · cases hf3
    · cases hf3
  · cases hf3
/-! ### o[i] op= e, of ints -/
def rGetU (K : PySem.W.Frag) : V → V → Hp → VK → Prop := fun x y H Q => rIxL K x y H Q ∨ rIxDct x y H Q
theorem get_u (hu : X.A.units + 65 < cLine) : PGet X (rGetU X.K) := by
  intro pins s σ H o i ov iv Q I ro ri h
  rcases h with h | ⟨a, z, e, g, q⟩
  · obtain ⟨p, xs, i, z, rfl, rfl, hq, he, q⟩ := h
    cases ro
    obtain ⟨t, rfl⟩ := ri
    obtain ⟨its, r, pl, hz⟩ := I.list hq
    obtain ⟨j, h1, h2, h3, h4, h5⟩ := atI_get he
    obtain ⟨w, ew, rw'⟩ := r.get h2
    have hl := r.length
    have hn := line63
    have fin : EP X pins σ Q w s := ⟨z, H, I, rw', q⟩
    by_cases h0 : 0 ≤ i
    · have hj : i.toNat = j := by
        rw [seqIndex_of h0 h5] at h1
        exact Option.some.inj h1
      exact wpAny_getItem_list pl.isList h0 (by omega) (by rw [hj]; simpa using ew) fin
    · have hj : (i + (its.toArray.size : Int)).toNat = j := by
        rw [seqIndex_neg (by omega) h4] at h1
        rw [List.size_toArray, ← hl]
        exact Option.some.inj h1
      exact wpAny_getItem_list_neg pl.isList (by omega) (by rw [List.size_toArray] <;> omega) (by omega) (by rw [hj]; simpa using ew) fin
  · subst e
    cases ro
    exact d_getItem (by omega) I g ri fun w' s' I' r => ⟨z, H, I', r, q⟩
def getAt : D → D → Option D
  | .lst ds, .int i => atI ds i
  | .dK kvs, x => match dget (.dK kvs) x with
    | some (some d) => some d
    | _ => none
  | .dT kvs, x => match dget (.dT kvs) x with
    | some (some d) => some d
    | _ => none
  | _, _ => none
theorem ad_get {K : PySem.W.Frag} {B : Addr → Prop} {H : Hp} {v w : V} {x y d : D} {Q : VK} (rv : Rb B H v x) (rw' : Rb B H w y) (e : getAt x y = some d) (q : ∀ u, Rp B H u d → Q u H) : rGetU K v w H Q := by
  unfold getAt at e
  split at e
  · obtain ⟨a, vs, rfl, ea, ra⟩ := rv.lst
    obtain ⟨u, e3, e4⟩ := ra.atI e
    exact .inl ⟨a, vs, _, u, rfl, rw'.int, SqL.of ea, e3, q u e4⟩
  · split at e
    · rename_i e1
      cases e
      obtain ⟨a, o, rfl, g, r⟩ := dget_ok rv rw' e1
      obtain ⟨u, rfl, ru⟩ := r
      exact .inr ⟨a, u, rfl, g, q u ru⟩
    · cases e
  · split at e
    · rename_i e1
      cases e
      obtain ⟨a, o, rfl, g, r⟩ := dget_ok rv rw' e1
      obtain ⟨u, rfl, ru⟩ := r
      exact .inr ⟨a, u, rfl, g, q u ru⟩
    · cases e
  · cases e
def fAugS (op : Int → Int → Int) (fo fi fe : M R) : M Fl := fo.bind fun o => fi.bind fun i => fun ρ => match o with
  | .slot s => match cont ρ s, deref ρ i with
    | some d, some k => match getAt d k with
      | some (.int a) => (fe.bind fun r ρ2 => match cont ρ2 s, deref ρ2 i, deref ρ2 r with
        | some d2, some k2, some (.int b) => match putAt d2 k2 (.int (op a b)) with
          | some d' => some (.ok .next, setC ρ2 s d')
          | none => none
        | _, _, _ => none) ρ
      | _ => none
    | _, _ => none
  | _ => none
theorem ex_augS {o i e : Expr} {to ti te : TE} {fo fi fe : M R} {op : Operator} {g : Int → Int → Int} {tpos pos : Pos} (hu : X.A.units + 65 < cLine) (ho : Ev X W o to fo) (hi : Ev X W i ti fi) (he : Ev X W e te fe) (hp : PIp X op (ipI g))
    (ha : ∀ ov iv new, augStore i ov iv new = (do holding [new, ov, iv] (setItem ov iv new); release [new, ov, iv] []; pure .next) := by intros; rfl) : Ex X W (.AugAssign (.Subscript o i tpos) op e pos) (tAugS to ti te (rGetU X.K) (ipI g) rSetU) (fAugS g fo fi fe) := by
  refine ⟨ps_augS ho.pe hi.pe (get_u hu) he.pe hp (set_u hu) ha, ?_⟩
  intro F A O σ H ρ r ρ' E rel hf post
  refine ho.sd.then rel hf post.err fun H1 v x ρ1 t1 rel1 rb1 hf1 => ?_
  have post1 := post.tr t1
  refine hi.sd.then rel1 hf1 post1.err fun H2 w y ρ2 t2 rel2 rb2 hf2 => ?_
  have post2 := post1.tr t2
  split at hf2
  · rename_i s
    split at hf2
    · rename_i d k e1 e2
      split at hf2
      · rename_i a e3
        refine ad_get (RB.rb (r := .slot s) rel2 (rb1.tr t2) e1) (rb2.rb rel2 e2) e3 fun u ru => ?_
        rw [Rb.int (.inl ru)]
        refine he.sd.then rel2 hf2 post2.err fun H3 q z ρ3 t3 rel3 rb3 hf3 => ?_
        have post3 := post2.tr t3
        split at hf3
        · rename_i d2 k2 b e4 e5 e6
          split at hf3
          · rename_i d' e7
            cases hf3
            refine ⟨a, b, rfl, (rb3.rb rel3 e6).int, ?_⟩
            obtain ⟨p, hO, rfl⟩ := rb1
            obtain ⟨p', ob, hO', _, hp, mu, orr⟩ := rel3.cont e4
            rw [hO] at hO'; cases hO'
            refine ad_put hp orr ((rb2.tr t3).rb rel3 e5) (.int _) e7 fun o' m' ob' => ?_
            obtain ⟨tr, rel4⟩ := rel3.write e4 hO m' ob'
            exact post3 O σ _ tr rel4
          · cases hf3
        · cases hf3
      · cases hf2
    · cases hf2
  · cases hf2
end
end L3

namespace L3
open PySem L2
variable [Md] [Tb]
section
variable {X : Cx} {W : WX} {mg : Str → Option Value}
/-! ### targets -/
theorem Rel.setS0 {F : Addr → Prop} {A : Nat → Option Addr} {O : List (Option Addr)} {σ : St} {H : Hp} {ρ : DEnv} {i : Nat} {v : V} {d : D} (rel : Rel F A O σ H ρ) (hi : i < ρ.length) (rp : Rp (Bad F A O) H v d) : Rel F A O (σ.set i (some v)) H (ρ.set i (some (.sh d))) :=
  { lenO := by rw [List.length_set]; exact rel.lenO
    lenS := by rw [List.length_set, List.length_set]; exact rel.lenS
    dom := rel.dom
    domA := rel.domA
    domO := rel.domO
    inj := rel.inj
    tabs := rel.tabs
    slot := fun j sv e => by
      by_cases hj : j = i
      · subst hj
        rw [List.getElem?_set_self hi] at e
        cases e
        exact ⟨v, List.getElem?_set_self (by rw [rel.lenS]; exact hi), rp⟩
      · rw [List.getElem?_set_ne (Ne.symm hj)] at e
        have q := rel.slot j sv e
        have hS : (σ.set i (some v))[j]? = σ[j]? := List.getElem?_set_ne (Ne.symm hj)
        cases sv with
        | sh d => obtain ⟨u, e1, e2⟩ := q; exact ⟨u, by rw [hS]; exact e1, e2⟩
        | ow d => obtain ⟨p, o, e1, e2, e3, e4, e5, mu, e6⟩ := q; exact ⟨p, o, e1, e2, e3, by rw [hS]; exact e4, e5, mu, e6⟩
        | io d => obtain ⟨p, o, e1, e3, e4, e5, mu, e6⟩ := q; exact ⟨p, o, e1, e3, by rw [hS]; exact e4, e5, mu, e6⟩ }
def SndG (is : List Nat) (g : TG) (f : D → DEnv → Option DEnv) : Prop := ∀ F A O σ H ρ x d ρ' Q, Rel F A O σ H ρ → Rp (Bad F A O) H x d → f d ρ = some ρ' → (∀ σ', Rel F A O σ' H ρ' → σ'.length = σ.length → (∀ j, j ∉ is → σ'[j]? = σ[j]?) → Q σ' H) → g x σ H Q
structure ExG (X : Cx) (is : List Nat) (tg : Expr) (g : TG) (f : D → DEnv → Option DEnv) : Prop where
  pe : PG X tg g
  sd : SndG is g f
def fTg (i : Nat) (d : D) (ρ : DEnv) : Option DEnv := if noIo ρ i = true then some (ρ.set i (some (.sh d))) else none
theorem exg_name {i : Nat} {x : Str} {pos : Pos} (hN : X.N.Nodup) (hi : X.N[i]? = some x) (hx : Loc X.env.scope x) (hf : X.fn x = true ∨ X.env.scope.names.lookup x = some .local := by first | exact .inl rfl | exact .inr rfl | assumption) : ExG X [i] (.Name x pos) (gName i) (fTg i) := by
  refine ⟨pg_name hN hi hx hf, ?_⟩
  intro F A O σ H ρ x d ρ' Q rel rp e k
  unfold fTg at e
  split at e
  · rename_i c
    cases e
    exact k _ (rel.setS0 (noIo_lt c) rp) List.length_set fun j hj => List.getElem?_set_ne (fun z => hj (by rw [z]; simp))
  · cases e
def SndGs (is : List Nat) (g : TGs) (f : List D → DEnv → Option DEnv) : Prop := ∀ F A O σ H ρ xs ds ρ' Q, Rel F A O σ H ρ → RpAll (Bad F A O) H xs ds → f ds ρ = some ρ' → (∀ σ', Rel F A O σ' H ρ' → σ'.length = σ.length → (∀ j, j ∉ is → σ'[j]? = σ[j]?) → Q σ' H) → g xs σ H Q
structure ExGs (X : Cx) (is : List Nat) (tg : List Expr) (g : TGs) (f : List D → DEnv → Option DEnv) : Prop where
  pe : PGs X tg g
  sd : SndGs is g f
def fTgN (ds : List D) (ρ : DEnv) : Option DEnv := match ds with
  | [] => some ρ
  | _ => none
def fTgC (f : D → DEnv → Option DEnv) (g : List D → DEnv → Option DEnv) (ds : List D) (ρ : DEnv) : Option DEnv := match ds with
  | d :: r => match f d ρ with
    | some ρ1 => g r ρ1
    | none => none
  | [] => none
theorem exgs_nil : ExGs X [] [] gNil fTgN := ⟨pgs_nil, fun F A O σ H ρ xs ds ρ' Q rel rp e k => by
  unfold fTgN at e
  split at e
  · cases e
    cases rp
    exact ⟨rfl, k σ rel rfl fun _ _ => rfl⟩
  · cases e⟩
theorem exgs_cons {is js : List Nat} {e : Expr} {es : List Expr} {t : TG} {u : TGs} {f : D → DEnv → Option DEnv} {g : List D → DEnv → Option DEnv} (h1 : ExG X is e t f) (h2 : ExGs X js es u g) (hp : PGs X (e :: es) (gCons t u)) : ExGs X (is ++ js) (e :: es) (gCons t u) (fTgC f g) := by
  refine ⟨hp, ?_⟩
  intro F A O σ H ρ xs ds ρ' Q rel rp e k
  unfold fTgC at e
  split at e
  · rename_i d r
    split at e
    · rename_i ρ1 e1
      cases rp with
      | cons r1 t1 =>
        refine ⟨_, _, rfl, h1.sd F A O σ H ρ _ d ρ1 _ rel r1 e1 fun σ1 rel1 l1 a1 => ?_⟩
        exact h2.sd F A O σ1 H ρ1 _ _ ρ' _ rel1 t1 e fun σ2 rel2 l2 a2 => k σ2 rel2 (l2.trans l1) fun j hj => by
          rw [a2 j (fun z => hj (List.mem_append_right _ z)), a1 j (fun z => hj (List.mem_append_left _ z))]
    · cases e
  · cases e
def fTgT (n : Nat) (f : List D → DEnv → Option DEnv) (d : D) (ρ : DEnv) : Option DEnv := match d with
  | .tup ds => if ds.length = n then f ds ρ else none
  | _ => none
theorem exg_tup {is : List Nat} {es : List Expr} {k : Nat} {t : TGs} {n : Nat} {f : List D → DEnv → Option DEnv} {pos : Pos} (h : ExGs X is es t f) (hp : PG X (.Tuple es k pos) (gTup X.K n t)) : ExG X is (.Tuple es k pos) (gTup X.K n t) (fTgT n f) := by
  refine ⟨hp, ?_⟩
  intro F A O σ H ρ x d ρ' Q rel rp e k
  unfold fTgT at e
  split at e
  · split at e
    · rename_i ds c
      obtain ⟨a, o, vs, rfl, ea, ta, ra, na⟩ := Rb.tup (.inl rp)
      exact ⟨a, vs, rfl, ta.sq ea, by rw [ra.length]; exact c, h.sd F A O σ H ρ vs ds ρ' _ rel ra e k⟩
    · cases e
  · cases e
/-! ### iterables -/
def Walk (B : Addr → Prop) (H : Hp) (J : It) (ds : List D) : Prop := ∀ B1 H1, (∀ a o, ¬ B a → H a = some o → nt o → H1 a = some o ∧ ¬ B1 a) → (∀ p, H1 p = none → ¬ B1 p) → ∀ i : Nat, match ds[i]? with
  | some d => J.go i H1 ∧ ∀ x H', J.yld i H1 x H' → Same H1 H' ∧ Rp B1 H' x d
  | none => J.stop i H1
structure EvI (X : Cx) (W : WX) (tg iter : Expr) (wi : TI) (f : M (List D)) : Prop where
  pe : PI X tg iter wi
  sd : ∀ F A O σ H ρ r ρ' (Q : It → Hp → Prop), Rel F A O σ H ρ → f ρ = some (r, ρ') → (match r with
    | .ok ds => ∀ H' J, Tr O H O H' → Rel F A O σ H' ρ' → Walk (Bad F A O) H' J ds → Q J H'
    | .error x => XPost X.mg W F A O σ H ρ' x) → wi σ H Q
def fItL (f : M R) : M (List D) := f.bind fun r ρ => match stab r with
  | some (.lst ds) => some (.ok ds, ρ)
  | _ => none
def fItT (f : M R) : M (List D) := f.bind fun r ρ => match stab r with
  | some (.tup ds) => some (.ok ds, ρ)
  | _ => none
theorem Rp.lst {B : Addr → Prop} {H : Hp} {v : V} {ds : List D} (h : Rp B H v (.lst ds)) : ∃ a vs, v = .ref a ∧ H a = some (.lst vs) ∧ RpAll B H vs ds ∧ ¬ B a := by
  cases h with
  | ob e n h => cases h with
    | lst h => exact ⟨_, _, rfl, e, h, n⟩
theorem SqL.one {K : PySem.W.Frag} {H : Hp} {a : Addr} {xs ys : List V} (e : H a = some (.lst xs)) (h : SqL K H a ys) (nk : K.lookup a = none) : ys = xs := by
  rcases h with (h | ⟨o, h⟩) | ⟨o, its, n, h, _⟩
  · rw [e] at h; cases h; rfl
  · rw [e] at h; cases h
  · rw [nk] at h; cases h
theorem evi_list {tg l : Expr} {tl : TE} {f : M R} (h : Ev X W l tl f) : EvI X W tg l (iList X.K tl) (fItL f) := by
  refine ⟨pi_list h.pe, ?_⟩
  intro F A O σ H ρ r ρ' Q rel hf post
  refine h.sd.then rel hf (fun x e => by subst e; exact post) fun H1 v x ρ1 t1 rel1 rb hf1 => ?_
  split at hf1
  · rename_i ds e
    cases hf1
    obtain ⟨a, vs, rfl, ea, ra, na⟩ := (rb.stab e).lst
    refine ⟨a, rfl, ⟨vs, SqL.of ea⟩, post H1 _ t1 rel1 ?_⟩
    intro B1 H2 tr gd i
    have e2 := tr a _ na ea (fun _ h => by cases h)
    have ra2 := RpAll.mono tr ra
    split
    · rename_i d ed
      obtain ⟨u, eu, ru⟩ := ra2.get ed
      refine ⟨⟨vs, u, SqL.of e2.1, eu⟩, fun x H' hy => ?_⟩
      obtain ⟨rfl, hx⟩ := hy
      have hx2 := hx vs (SqL.of e2.1)
      rw [eu] at hx2; cases hx2
      exact ⟨fun _ _ q => q, ru⟩
    · rename_i ed
      exact ⟨vs, SqL.of e2.1, by rw [ra.length]; exact List.getElem?_eq_none_iff.mp ed⟩
  · cases hf1
theorem Rp.tup {B : Addr → Prop} {H : Hp} {v : V} {ds : List D} (h : Rp B H v (.tup ds)) : ∃ a o vs, v = .ref a ∧ H a = some o ∧ OT o vs ∧ RpAll B H vs ds ∧ ¬ B a := Rb.tup (.inl h)
theorem evi_tup {tg l : Expr} {tl : TE} {f : M R} (h : Ev X W l tl f) : EvI X W tg l (iTup X.K tl) (fItT f) := by
  refine ⟨pi_tup h.pe, ?_⟩
  intro F A O σ H ρ r ρ' Q rel hf post
  refine h.sd.then rel hf (fun x e => by subst e; exact post) fun H1 v x ρ1 t1 rel1 rb hf1 => ?_
  split at hf1
  · rename_i ds e
    cases hf1
    obtain ⟨a, oa, vs, rfl, ea, ta, ra, na⟩ := (rb.stab e).tup
    refine ⟨a, rfl, ⟨vs, ta.sq ea⟩, post H1 _ t1 rel1 ?_⟩
    intro B1 H2 tr gd i
    have e2 := tr a _ na ea ta.nt
    have ra2 := RpAll.mono tr ra
    split
    · rename_i d ed
      obtain ⟨u, eu, ru⟩ := ra2.get ed
      refine ⟨⟨vs, u, ta.sq e2.1, eu⟩, fun x H' hy => ?_⟩
      obtain ⟨rfl, hx⟩ := hy
      have hx2 := hx vs (ta.sq e2.1)
      rw [eu] at hx2; cases hx2
      exact ⟨fun _ _ q => q, ru⟩
    · rename_i ed
      exact ⟨vs, ta.sq e2.1, by rw [ra.length]; exact List.getElem?_eq_none_iff.mp ed⟩
  · cases hf1
def fItR1 (f : M (List R)) : M (List D) := f.bind fun rs ρ => match derefs ρ rs with
  | some [.int n] => if -4611686018427387904 ≤ n ∧ n < 4611686018427387904 then some (.ok (rgD 0 n), ρ) else none
  | _ => none
def fItR2 (f : M (List R)) : M (List D) := f.bind fun rs ρ => match derefs ρ rs with
  | some [.int i, .int n] => if -4611686018427387904 ≤ i ∧ i < 4611686018427387904 ∧ -4611686018427387904 ≤ n ∧ n < 4611686018427387904 then some (.ok (rgD i n), ρ) else none
  | _ => none
theorem walk_rg {B : Addr → Prop} {H : Hp} (a b : Int) : Walk B H (Itr a (b - a).toNat) (rgD a b) := by
  intro O1 H2 tr gd i
  split
  · rename_i d ed
    unfold rgD at ed
    rw [List.getElem?_map] at ed
    obtain ⟨k, e1, e2⟩ := Option.map_eq_some_iff.mp ed
    have hk : i < (b - a).toNat := by
      have := (List.getElem?_eq_some_iff.mp e1).1
      rwa [List.length_range] at this
    rw [List.getElem?_range hk] at e1
    cases e1
    refine ⟨?_, fun x H' hy => ?_⟩
    · exact hk
    · obtain ⟨rfl, rfl⟩ := hy
      subst e2
      exact ⟨fun _ _ q => q, .int _⟩
  · rename_i ed
    have := List.getElem?_eq_none_iff.mp ed
    unfold rgD at this
    rw [List.length_map, List.length_range] at this
    exact this
theorem p62 : ((2 : Int) ^ 62) = 4611686018427387904 := by decide
theorem evi_r1 {tg a : Expr} {ta : TA} {f : M (List R)} {p pos : Pos} (hg : Gl X "range") (hm : X.mg "range" = none) (ha : EvA X W [a] ta f) (hs : starEach [a] X.env = [(false, eval a X.env)] := by rfl) : EvI X W tg (.Call (.Name "range" p) [a] [] pos) (iRng1 ta) (fItR1 f) := by
  refine ⟨pi_range1 hg hm ha.pe hs, ?_⟩
  intro F A O σ H ρ r ρ' Q rel hf post
  refine ha.sd.then rel hf (fun x e => by subst e; exact post) fun H1 vs x ρ1 t1 rel1 rb hf1 => ?_
  split at hf1
  · rename_i n e
    split at hf1
    · rename_i c
      cases hf1
      obtain ⟨v, rfl, r1⟩ := (RBs.derefs rel1 rb e).one
      refine ⟨n, by rw [r1.int], by rw [p62]; exact c.1, by rw [p62]; exact c.2, post H1 _ t1 rel1 ?_⟩
      have := walk_rg (B := Bad F A O) (H := H1) 0 n
      rw [Int.sub_zero] at this
      exact this
    · cases hf1
  · cases hf1
theorem evi_r2 {tg a b : Expr} {ta : TA} {f : M (List R)} {p pos : Pos} (hg : Gl X "range") (hm : X.mg "range" = none) (ha : EvA X W [a, b] ta f) (hs : starEach [a, b] X.env = [(false, eval a X.env), (false, eval b X.env)] := by rfl) (hs2 : starEach [b] X.env = [(false, eval b X.env)] := by rfl) : EvI X W tg (.Call (.Name "range" p) [a, b] [] pos) (iRng2 ta) (fItR2 f) := by
  refine ⟨pi_range2 hg hm ha.pe hs hs2, ?_⟩
  intro F A O σ H ρ r ρ' Q rel hf post
  refine ha.sd.then rel hf (fun x e => by subst e; exact post) fun H1 vs x ρ1 t1 rel1 rb hf1 => ?_
  split at hf1
  · rename_i i n e
    split at hf1
    · rename_i c
      cases hf1
      obtain ⟨v, w, rfl, r1, r2⟩ := (RBs.derefs rel1 rb e).two
      refine ⟨i, n, by rw [r1.int, r2.int], ?_, post H1 _ t1 rel1 (walk_rg i n)⟩
      rw [p62]; exact c
    · cases hf1
  · cases hf1
/-! ### for -/
def fLoop (tg : D → DEnv → Option DEnv) (body : M Fl) : List D → M Fl
  | [], ρ => some (.ok .next, ρ)
  | d :: ds, ρ => match tg d ρ with
    | none => none
    | some ρ1 => match body ρ1 with
      | some (.ok .next, ρ2) => fLoop tg body ds ρ2
      | some (.ok .cont, ρ2) => fLoop tg body ds ρ2
      | some (.ok .brk, ρ2) => some (.ok .next, ρ2)
      | some (.ok (.ret x), ρ2) => some (.ok (.ret x), ρ2)
      | some (.error x, ρ2) => some (.error x, ρ2)
      | none => none
def fFor (fi : M (List D)) (tg : D → DEnv → Option DEnv) (body : M Fl) : M Fl := fi.bind fun ds => fLoop tg body ds
theorem ex_for {tg iter : Expr} {body : List Stmt} {wi : TI} {g : TG} {tb : TS} {pos : Pos} {fi : M (List D)} {fg : D → DEnv → Option DEnv} {fb : M Fl} (hp : PassesOwn (model X.prog X.w) X.A X.env X.xe) (hc : X.calm = true) (hi : EvI X W tg iter wi fi) {is : List Nat} (hg : ExG X is tg g fg) (hb : ExB X W body tb fb)
    (hs : ∀ x, foldedSetIterable iter X.env x = pure x := by intro _; rfl) : Ex X W (.For tg iter body [] pos) (tFor wi g tb) (fFor fi fg fb) := by
  refine ⟨ps_for hp hc hi.pe hg.pe hb.pe hs, ?_⟩
  intro F A O σ H ρ r ρ' E rel hf post
  unfold fFor M.bind at hf
  split at hf
  · rename_i ds ρ1 q
    refine hi.sd F A O σ H ρ _ _ _ rel q fun H1 J t1 rel1 wk => ?_
    simp only at hf
    refine ⟨fun i m σ2 H2 => m = ds.length - i ∧ i ≤ ds.length ∧ ∃ O2 ρ2, Tr O H1 O2 H2 ∧ Rel F A O2 σ2 H2 ρ2 ∧ fLoop fg fb (ds.drop i) ρ2 = some (r, ρ'), ⟨ds.length, by simp, by simp, O, ρ1, Tr.refl, rel1, by simpa using hf⟩, ?_⟩
    rintro i m σ2 H2 ⟨hm, hi2, O2, ρ2, t2, rel2, hl⟩
    have wk2 := wk _ H2 (Bad.tr t2) (fun _ n => rel2.good n) i
    have post2 := post.tr (t1.trans t2)
    split at wk2
    · rename_i d ed
      obtain ⟨hlt, hde⟩ := List.getElem?_eq_some_iff.mp ed
      have hd : ds.drop i = d :: ds.drop (i + 1) := by rw [List.drop_eq_getElem_cons hlt, hde]
      rw [hd] at hl
      unfold fLoop at hl
      obtain ⟨hgo, hy⟩ := wk2
      refine .inr ⟨hgo, fun σ3 H3 => ∃ O3 ρ3, Tr O H1 O3 H3 ∧ Rel F A O3 σ3 H3 ρ3 ∧ fLoop fg fb (ds.drop (i + 1)) ρ3 = some (r, ρ'), fun σ3 H3 ⟨O3, ρ3, a, b, c⟩ => ⟨ds.length - (i + 1), by omega, rfl, by omega, O3, ρ3, a, b, c⟩, fun x H' hx => ?_⟩
      obtain ⟨sm, rp⟩ := hy x H' hx
      split at hl
      · cases hl
      · rename_i ρ3 e3
        refine hg.sd F A O2 σ2 H' ρ2 x d ρ3 _ (rel2.grow sm) rp e3 fun σ4 rel4 _ _ => ?_
        have t5 : Tr O H1 O2 H' := t2.trans (Tr.same sm)
        split at hl
        · rename_i ρ5 e5
          exact hb.sd F A O2 σ4 H' ρ3 _ _ _ rel4 e5 fun O' σ' H'' a b => ⟨O', ρ5, t5.trans a, b, hl⟩
        · rename_i ρ5 e5
          exact hb.sd F A O2 σ4 H' ρ3 _ _ _ rel4 e5 fun O' σ' H'' a b => ⟨O', ρ5, t5.trans a, b, hl⟩
        · rename_i ρ5 e5
          cases hl
          exact hb.sd F A O2 σ4 H' ρ3 _ _ _ rel4 e5 fun O' σ' H'' a b => post O' σ' H'' (t1.trans (t5.trans a)) b
        · rename_i y ρ5 e5
          cases hl
          exact hb.sd F A O2 σ4 H' ρ3 _ _ _ rel4 e5 fun O' σ' H'' v a b c => post O' σ' H'' v (t1.trans (t5.trans a)) b c
        · rename_i y ρ5 e5
          cases hl
          exact hb.sd F A O2 σ4 H' ρ3 _ _ _ rel4 e5 fun O' σ' H'' v dd a b c => post O' σ' H'' v dd (t1.trans (t5.trans a)) b c
        · cases hl
    · rename_i ed
      have hge : ds.length ≤ i := List.getElem?_eq_none_iff.mp ed
      rw [List.drop_eq_nil_of_le hge] at hl
      cases hl
      exact .inl ⟨wk2, post O2 σ2 H2 (t1.trans t2) rel2⟩
  · rename_i x ρ1 q
    cases hf
    exact hi.sd F A O σ H ρ _ _ _ rel q fun H' cls dd tr rel' xr => post O σ H' cls dd tr rel' xr
  · cases hf
/-! ### while -/
def fWhile (c : M Bool) (body : M Fl) : Nat → M Fl
  | 0, _ => none
  | n + 1, ρ => match c ρ with
    | some (.ok true, ρ1) => match body ρ1 with
      | some (.ok .next, ρ2) => fWhile c body n ρ2
      | some (.ok .cont, ρ2) => fWhile c body n ρ2
      | some (.ok .brk, ρ2) => some (.ok .next, ρ2)
      | some (.ok (.ret x), ρ2) => some (.ok (.ret x), ρ2)
      | some (.error x, ρ2) => some (.error x, ρ2)
      | none => none
    | some (.ok false, ρ1) => some (.ok .next, ρ1)
    | some (.error x, ρ1) => some (.error x, ρ1)
    | none => none
theorem ex_while (n : Nat) {c : Expr} {body : List Stmt} {tc : TT} {tb : TS} {pos : Pos} {fc : M Bool} {fb : M Fl} (hp : PassesOwn (model X.prog X.w) X.A X.env X.xe) (hc : EvT X W c tc fc) (hb : ExB X W body tb fb) : Ex X W (.While c body [] pos) (tWhile tc tb) (fWhile fc fb n) := by
  refine ⟨ps_while hp hc.pe hb.pe, ?_⟩
  intro F A O σ H ρ r ρ' E rel hf post
  refine ⟨fun m σ2 H2 => ∃ O2 ρ2, Tr O H O2 H2 ∧ Rel F A O2 σ2 H2 ρ2 ∧ fWhile fc fb m ρ2 = some (r, ρ'), ⟨n, O, ρ, Tr.refl, rel, hf⟩, ?_⟩
  rintro m σ2 H2 ⟨O2, ρ2, t2, rel2, hl⟩
  cases m with
  | zero => cases hl
  | succ m =>
    unfold fWhile at hl
    split at hl
    · rename_i ρ3 e3
      refine hc.sd F A O2 σ2 H2 ρ2 _ _ _ rel2 e3 fun H3 t3 rel3 => ?_
      rw [if_pos rfl]
      refine ⟨fun σ3 H3 => ∃ O3 ρ3, Tr O H O3 H3 ∧ Rel F A O3 σ3 H3 ρ3 ∧ fWhile fc fb m ρ3 = some (r, ρ'), fun σ3 H3 h => ⟨m, by omega, h⟩, ?_⟩
      have t5 := t2.trans t3
      split at hl
      · rename_i ρ5 e5
        exact hb.sd F A O2 σ2 H3 ρ3 _ _ _ rel3 e5 fun O' σ' H'' a b => ⟨O', ρ5, t5.trans a, b, hl⟩
      · rename_i ρ5 e5
        exact hb.sd F A O2 σ2 H3 ρ3 _ _ _ rel3 e5 fun O' σ' H'' a b => ⟨O', ρ5, t5.trans a, b, hl⟩
      · rename_i ρ5 e5
        cases hl
        exact hb.sd F A O2 σ2 H3 ρ3 _ _ _ rel3 e5 fun O' σ' H'' a b => post O' σ' H'' (t5.trans a) b
      · rename_i y ρ5 e5
        cases hl
        exact hb.sd F A O2 σ2 H3 ρ3 _ _ _ rel3 e5 fun O' σ' H'' v a b c => post O' σ' H'' v (t5.trans a) b c
      · rename_i y ρ5 e5
        cases hl
        exact hb.sd F A O2 σ2 H3 ρ3 _ _ _ rel3 e5 fun O' σ' H'' v dd a b c => post O' σ' H'' v dd (t5.trans a) b c
      · cases hl
    · rename_i ρ3 e3
      cases hl
      refine hc.sd F A O2 σ2 H2 ρ2 _ _ _ rel2 e3 fun H3 t3 rel3 => ?_
      rw [if_neg (by decide)]
      exact post O2 σ2 H3 (t2.trans t3) rel3
    · rename_i x ρ3 e3
      cases hl
      exact hc.sd F A O2 σ2 H2 ρ2 _ _ _ rel2 e3 fun H' cls dd tr rel' xr => post O2 σ2 H' cls dd (t2.trans tr) rel' xr
    · cases hl
end
end L3

namespace L3
open PySem L2
variable [Md] [Tb]
section
variable {X : Cx} {W : WX} {mg : Str → Option Value}
/-! ### a block's own slots -/
def wipeD (ρ : DEnv) : List Nat → DEnv
  | [] => ρ
  | v :: vs => (wipeD ρ vs).set v none
theorem wipeD_length (ρ : DEnv) : ∀ vs : List Nat, (wipeD ρ vs).length = ρ.length
  | [] => rfl
  | v :: vs => by unfold wipeD; rw [List.length_set, wipeD_length ρ vs]
theorem wipeD_some {ρ : DEnv} {i : Nat} {x : SV} : ∀ {vs : List Nat}, (wipeD ρ vs)[i]? = some (some x) → ρ[i]? = some (some x) ∧ i ∉ vs
  | [], h => ⟨h, by simp⟩
  | v :: vs, h => by
    unfold wipeD at h
    by_cases e : v = i
    · subst e
      rw [List.getElem?_set] at h
      rw [if_pos rfl] at h
      split at h <;> cases h
    · rw [List.getElem?_set_ne e] at h
      obtain ⟨h1, h2⟩ := wipeD_some h
      exact ⟨h1, by simp only [List.mem_cons, not_or]; exact ⟨fun z => e z.symm, h2⟩⟩
def putBack (ρ0 ρ : DEnv) : List Nat → DEnv
  | [] => ρ
  | v :: vs => (putBack ρ0 ρ vs).set v (ρ0[v]?).join
theorem putBack_length (ρ0 ρ : DEnv) : ∀ vs : List Nat, (putBack ρ0 ρ vs).length = ρ.length
  | [] => rfl
  | v :: vs => by unfold putBack; rw [List.length_set, putBack_length ρ0 ρ vs]
theorem putBack_some {ρ0 ρ : DEnv} {i : Nat} {x : SV} : ∀ {vs : List Nat}, (putBack ρ0 ρ vs)[i]? = some (some x) → (i ∈ vs ∧ ρ0[i]? = some (some x)) ∨ (i ∉ vs ∧ ρ[i]? = some (some x))
  | [], h => .inr ⟨by simp, h⟩
  | v :: vs, h => by
    unfold putBack at h
    by_cases e : v = i
    · subst e
      rw [List.getElem?_set, if_pos rfl] at h
      split at h
      · refine .inl ⟨List.mem_cons_self, ?_⟩
        have h' : (ρ0[v]?).join = some x := Option.some.inj h
        cases q : ρ0[v]? with
        | none => rw [q] at h'; cases h'
        | some y => rw [q] at h'; have : y = some x := h'; rw [this]
      · cases h
    · rw [List.getElem?_set_ne e] at h
      rcases putBack_some h with ⟨h1, h2⟩ | ⟨h1, h2⟩
      · exact .inl ⟨List.mem_cons_of_mem _ h1, h2⟩
      · exact .inr ⟨by simp only [List.mem_cons, not_or]; exact ⟨fun z => e z.symm, h1⟩, h2⟩
theorem wipe_in {σ : St} {i : Nat} (h : i < σ.length) : ∀ {vs : List Nat}, i ∈ vs → (wipe σ vs)[i]? = some none
  | [], h => by cases h
  | v :: vs, hm => by
    unfold wipe
    by_cases e : v = i
    · subst e
      rw [List.getElem?_set_self (by rw [wipe_length]; exact h)]
    · rw [List.getElem?_set_ne e]
      rcases List.mem_cons.mp hm with z | z
      · exact absurd z.symm e
      · exact wipe_in h z
theorem wipe_ext {σ σ' : St} {vs : List Nat} (hl : σ'.length = σ.length) (h : ∀ j, j ∉ vs → σ'[j]? = σ[j]?) : wipe σ' vs = wipe σ vs := by
  apply List.ext_getElem?
  intro j
  by_cases hj : j ∈ vs
  · by_cases hlt : j < σ.length
    · rw [wipe_in hlt hj, wipe_in (by rw [hl]; exact hlt) hj]
    · rw [List.getElem?_eq_none_iff.mpr (by rw [wipe_length, hl]; omega), List.getElem?_eq_none_iff.mpr (by rw [wipe_length]; omega)]
  · rw [wipe_out hj, wipe_out hj, h j hj]
/-- the own slots are wiped -/
theorem Rel.wipe {F : Addr → Prop} {A : Nat → Option Addr} {O : List (Option Addr)} {σ σ' : St} {H : Hp} {ρ : DEnv} {vs : List Nat} (rel : Rel F A O σ' H ρ) (hl : σ'.length = σ.length) (h : ∀ j, j ∉ vs → σ'[j]? = σ[j]?) : Rel F A O (L2.wipe σ vs) H (wipeD ρ vs) :=
  { lenO := by rw [wipeD_length]; exact rel.lenO
    lenS := by rw [wipeD_length, wipe_length, ← hl]; exact rel.lenS
    dom := rel.dom
    domA := rel.domA
    domO := rel.domO
    inj := rel.inj
    tabs := rel.tabs
    slot := fun j sv e => by
      obtain ⟨e0, hj⟩ := wipeD_some e
      have q := rel.slot j sv e0
      have hS : (L2.wipe σ vs)[j]? = σ'[j]? := by rw [wipe_out hj, h j hj]
      cases sv with
      | sh d => obtain ⟨u, e1, e2⟩ := q; exact ⟨u, by rw [hS]; exact e1, e2⟩
      | ow d => obtain ⟨p, o, e1, e2, e3, e4, e5, mu, e6⟩ := q; exact ⟨p, o, e1, e2, e3, by rw [hS]; exact e4, e5, mu, e6⟩
      | io d => obtain ⟨p, o, e1, e3, e4, e5, mu, e6⟩ := q; exact ⟨p, o, e1, e3, by rw [hS]; exact e4, e5, mu, e6⟩ }
/-- something forbidden is written -/
theorem Rel.updF {F : Addr → Prop} {A : Nat → Option Addr} {O : List (Option Addr)} {σ : St} {H : Hp} {ρ : DEnv} {p : Addr} {o o0 : HO} (rel : Rel F A O σ H ρ) (hF : F p) (hA : ∀ j, A j ≠ some p) (h0 : H p = some o0) (m0 : Mu o0) : Rel F A O σ (upd H p o) ρ ∧ ∀ a u, ¬ Bad F A O a → H a = some u → nt u → upd H p o a = some u ∧ ¬ Bad F A O a := by
  have bd : ∀ a u, ¬ Bad F A O a → H a = some u → nt u → upd H p o a = some u ∧ ¬ Bad F A O a := fun a u n e _ => ⟨by
    have hne : a ≠ p := fun z => n (by rw [z]; exact .inl hF)
    rw [upd_ne hne]; exact e, n⟩
  have dm : ∀ a u, H a = some u → ∃ u, upd H p o a = some u := fun a u e => by
    by_cases h : a = p
    · subst h; exact ⟨_, upd_same⟩
    · exact ⟨u, by rw [upd_ne h]; exact e⟩
  refine ⟨?_, bd⟩
  exact
  { lenO := rel.lenO
    lenS := rel.lenS
    dom := fun a z => let ⟨u, e⟩ := rel.dom a z; dm a u e
    domA := fun i a z => let ⟨u, e⟩ := rel.domA i a z; dm a u e
    domO := fun i a z => let ⟨u, e⟩ := rel.domO i a z; dm a u e
    inj := rel.inj
    tabs := tabs_upd rel.tabs h0 m0
    slot := fun j sv e => by
      have q := rel.slot j sv e
      cases sv with
      | sh d => obtain ⟨u, e1, e2⟩ := q; exact ⟨u, e1, Rp.mono bd e2⟩
      | ow d =>
        obtain ⟨p', o', e1, e2, e3, e4, e5, mu, e6⟩ := q
        exact ⟨p', o', e1, e2, e3, e4, by rw [upd_ne (fun z => e2 (by rw [z]; exact hF))]; exact e5, mu, OR.mono bd e6⟩
      | io d =>
        obtain ⟨p', o', e1, e3, e4, e5, mu, e6⟩ := q
        exact ⟨p', o', e1, e3, e4, by rw [upd_ne (fun z => hA j (by rw [e3, z]))]; exact e5, mu, OR.mono bd e6⟩ }
def del (H : Hp) (p : Addr) : Hp := fun a => if a = p then none else H a
theorem del_same {H : Hp} {p : Addr} : del H p p = none := by unfold del; rw [if_pos rfl]
theorem del_ne {H : Hp} {p a : Addr} (h : a ≠ p) : del H p a = H a := by unfold del; rw [if_neg h]
theorem upd_del {H : Hp} {p : Addr} {o : HO} (h : H p = some o) : upd (del H p) p o = H := by
  funext a
  by_cases e : a = p
  · subst e; rw [upd_same, h]
  · rw [upd_ne e, del_ne e]
theorem tabs_del {H : Hp} {p : Addr} {o : HO} (h : TabsT H) (e : H p = some o) (mu : Mu o) : TabsT (del H p) := h.same fun a u ea x => by
  have hne : a ≠ p := fun z => by
    rw [z, e] at ea
    cases ea
    exact mu.nox x
  rw [del_ne hne]
  exact ea
/-- the last forbidden thing is set free, as a new one -/
theorem Rel.dropF {F : Addr → Prop} {A : Nat → Option Addr} {O : List (Option Addr)} {σ : St} {H : Hp} {ρ : DEnv} {p : Addr} (rel : Rel (fun a => F a ∨ a = p) A O σ H ρ) (hF : ¬ F p) (hA : ∀ j, A j ≠ some p) (hO : some p ∉ O) {o0 : HO} (h0 : H p = some o0) (m0 : Mu o0) :
    Rel F A O σ (del H p) ρ ∧ ∀ a u, ¬ Bad (fun a => F a ∨ a = p) A O a → H a = some u → nt u → del H p a = some u ∧ ¬ Bad F A O a := by
  have bd : ∀ a u, ¬ Bad (fun a => F a ∨ a = p) A O a → H a = some u → nt u → del H p a = some u ∧ ¬ Bad F A O a := fun a u n e _ => ⟨by
    have hne : a ≠ p := fun z => n (.inl (.inr z))
    rw [del_ne hne]; exact e, fun z => n (by
      rcases z with z | z
      · exact .inl (.inl z)
      · exact .inr z)⟩
  refine ⟨?_, bd⟩
  exact
  { lenO := rel.lenO
    lenS := rel.lenS
    dom := fun a z => by
      obtain ⟨u, e⟩ := rel.dom a (.inl z)
      exact ⟨u, by rw [del_ne (fun q => hF (by rw [← q]; exact z))]; exact e⟩
    domA := fun i a z => by
      obtain ⟨u, e⟩ := rel.domA i a z
      exact ⟨u, by rw [del_ne (fun q => hA i (by rw [z, q]))]; exact e⟩
    domO := fun i a z => by
      obtain ⟨u, e⟩ := rel.domO i a z
      exact ⟨u, by rw [del_ne (fun q => hO (by rw [← q]; exact mem_O.mpr ⟨i, z⟩))]; exact e⟩
    inj := rel.inj
    tabs := tabs_del rel.tabs h0 m0
    slot := fun j sv e => by
      have q := rel.slot j sv e
      cases sv with
      | sh d => obtain ⟨u, e1, e2⟩ := q; exact ⟨u, e1, Rp.mono bd e2⟩
      | ow d =>
        obtain ⟨p', o', e1, e2, e3, e4, e5, mu, e6⟩ := q
        exact ⟨p', o', e1, fun z => e2 (.inl z), e3, e4, by rw [del_ne (fun z => e2 (.inr z))]; exact e5, mu, OR.mono bd e6⟩
      | io d =>
        obtain ⟨p', o', e1, e3, e4, e5, mu, e6⟩ := q
        exact ⟨p', o', e1, e3, e4, by rw [del_ne (fun z => hA j (by rw [e3, z]))]; exact e5, mu, OR.mono bd e6⟩ }
/-- back among the outer slots -/
theorem Rel.back {F : Addr → Prop} {A : Nat → Option Addr} {O : List (Option Addr)} {σ : St} {H0 H : Hp} {ρ0 ρ : DEnv} {vs : List Nat} (rel0 : Rel F A O σ H0 ρ0) (tr : Tr O H0 O H) (no : ∀ v ∈ vs, ∀ d, ρ0[v]? ≠ some (some (.ow d)) ∧ ρ0[v]? ≠ some (some (.io d))) (rel : Rel F A O (L2.wipe σ vs) H (wipeD ρ vs)) : Rel F A O σ H (putBack ρ0 ρ vs) :=
  { lenO := by rw [putBack_length, ← wipeD_length ρ vs]; exact rel.lenO
    lenS := by rw [putBack_length, ← wipe_length σ vs, rel.lenS, wipeD_length]
    dom := rel.dom
    domA := rel.domA
    domO := rel.domO
    inj := rel.inj
    tabs := rel.tabs
    slot := fun j sv e => by
      rcases putBack_some e with ⟨hj, e0⟩ | ⟨hj, e0⟩
      · have q := rel0.slot j sv e0
        cases sv with
        | sh d => obtain ⟨u, e1, e2⟩ := q; exact ⟨u, e1, e2.tr tr⟩
        | ow d => exact absurd e0 (no j hj d).1
        | io d => exact absurd e0 (no j hj d).2
      · have e1 : (wipeD ρ vs)[j]? = some (some sv) := by
          have : ∀ ws : List Nat, j ∉ ws → (wipeD ρ ws)[j]? = ρ[j]? := by
            intro ws
            induction ws with
            | nil => intro _; rfl
            | cons w ws ih =>
              intro hn
              simp only [List.mem_cons, not_or] at hn
              unfold wipeD
              rw [List.getElem?_set_ne (fun z => hn.1 z.symm)]
              exact ih hn.2
          rw [this vs hj]; exact e0
        have q := rel.slot j sv e1
        have hS : (L2.wipe σ vs)[j]? = σ[j]? := wipe_out hj
        cases sv with
        | sh d => obtain ⟨u, e1, e2⟩ := q; exact ⟨u, by rw [← hS]; exact e1, e2⟩
        | ow d => obtain ⟨p, o, e1, e2, e3, e4, e5, mu, e6⟩ := q; exact ⟨p, o, e1, e2, e3, by rw [← hS]; exact e4, e5, mu, e6⟩
        | io d => obtain ⟨p, o, e1, e3, e4, e5, mu, e6⟩ := q; exact ⟨p, o, e1, e3, by rw [← hS]; exact e4, e5, mu, e6⟩ }
theorem Kp.unupd {H1 H2 : Hp} {D a : Addr} {o x y : HO} (hne : a ≠ D) (k : Kp (upd H1 D x) a o (upd H2 D y)) : Kp H1 a o H2 := ⟨fun n => by have z := k.nt n; rwa [upd_ne hne] at z, fun ps e => by
  obtain ⟨qs, z⟩ := k.tb ps e
  exact ⟨qs, by rwa [upd_ne hne] at z⟩⟩
theorem Kp.upd {H1 H2 : Hp} {D a : Addr} {o y : HO} (hne : a ≠ D) (k : Kp H1 a o H2) : Kp H1 a o (upd H2 D y) := ⟨fun n => by rw [upd_ne hne]; exact k.nt n, fun ps e => by
  obtain ⟨qs, z⟩ := k.tb ps e
  exact ⟨qs, by rw [upd_ne hne]; exact z⟩⟩
theorem Kp.del {H1 H2 : Hp} {D a : Addr} {o : HO} (hne : a ≠ D) (k : Kp H1 a o H2) : Kp H1 a o (del H2 D) := ⟨fun n => by rw [del_ne hne]; exact k.nt n, fun ps e => by
  obtain ⟨qs, z⟩ := k.tb ps e
  exact ⟨qs, by rw [del_ne hne]; exact z⟩⟩
/-! ### [elt for target in iter if test] -/
abbrev W0 : WX := fun _ _ _ _ => False
def lcLoop (vs : List Nat) (fg : D → DEnv → Option DEnv) (ft : M Bool) (fe : M R) : List D → List D → DEnv → Option (List D × DEnv)
  | [], acc, ρ => some (acc, ρ)
  | d :: ds, acc, ρ => match fg d (wipeD ρ vs) with
    | none => none
    | some ρ1 => match ft ρ1 with
      | some (.ok true, ρ2) => match fe ρ2 with
        | some (.ok r, ρ3) => match stab r with
          | some x => if acc.length < sizeLine then lcLoop vs fg ft fe ds (acc ++ [x]) ρ3 else none
          | none => none
        | _ => none
      | some (.ok false, ρ2) => lcLoop vs fg ft fe ds acc ρ2
      | _ => none
def noOwn (ρ : DEnv) (i : Nat) : Bool := match ρ[i]? with
  | some (some (.ow _)) => false
  | some (some (.io _)) => false
  | _ => true
def fLc (fi : M (List D)) (vs : List Nat) (fg : D → DEnv → Option DEnv) (ft : M Bool) (fe : M R) : M R := fi.bind fun ds ρ0 => if vs.all (noOwn ρ0) = true then match lcLoop vs fg ft fe ds [] ρ0 with
  | some (acc, ρ1) => some (.ok (.fresh (.lst acc)), putBack ρ0 ρ1 vs)
  | none => none else none
theorem snd_lc {wi : TI} {g : TG} {tt : TT} {te : TE} {vs is : List Nat} {fi : M (List D)} {fg : D → DEnv → Option DEnv} {ft : M Bool} {fe : M R}
    (hi : ∀ F A O σ H ρ r ρ' (Q : It → Hp → Prop), Rel F A O σ H ρ → fi ρ = some (r, ρ') → (match r with
      | .ok ds => ∀ H' J, Tr O H O H' → Rel F A O σ H' ρ' → Walk (Bad F A O) H' J ds → Q J H'
      | .error x => XPost mg W F A O σ H ρ' x) → wi σ H Q)
    (hg : SndG is g fg) (his : ∀ i ∈ is, i ∈ vs) (ht : SndT mg W0 tt ft) (he : Snd mg W0 te fe) : Snd mg W (tLc wi g tt te vs) (fLc fi vs fg ft fe) := by
  intro F A O σ H ρ r ρ' Q rel hf post
  unfold fLc M.bind at hf
  split at hf
  · rename_i ds ρ0 q
    refine hi F A O σ H ρ _ _ _ rel q fun H1 J t1 rel1 wk D hD => ?_
    simp only at hf
    split at hf
    · rename_i nown
      split at hf
      · rename_i accF ρF hl
        cases hf
        have hb : ¬ Bad F A O D := rel1.good hD
        have hO : some D ∉ O := fun z => hb (.inr (.inl z))
        have hA : ∀ j, A j ≠ some D := fun j z => hb (.inr (.inr ⟨j, z⟩))
        have hF : ¬ F D := fun z => hb (.inl z)
        have no : ∀ v ∈ vs, ∀ d, ρ0[v]? ≠ some (some (.ow d)) ∧ ρ0[v]? ≠ some (some (.io d)) := fun v hv d => by
          have z := List.all_eq_true.mp nown v hv
          unfold noOwn at z
          refine ⟨fun e => ?_, fun e => ?_⟩
          · rw [e] at z; cases z
          · rw [e] at z; cases z
        have s0 := same_new hD (.lst [])
        refine ⟨fun i m H2 => m = ds.length - i ∧ i ≤ ds.length ∧ ∃ acc ρ2 us, Tr O (upd H1 D (.lst [])) O (upd H2 D (.lst [])) ∧ (∃ o, H2 D = some o) ∧ Rel (fun a => F a ∨ a = D) A O (L2.wipe σ vs) H2 (wipeD ρ2 vs) ∧ H2 D = some (.lst us) ∧ RpAll (Bad (fun a => F a ∨ a = D) A O) H2 us acc ∧ lcLoop vs fg ft fe (ds.drop i) acc ρ2 = some (accF, ρF),
          ⟨ds.length, by simp, by simp, [], ρ0, [], by rw [upd_upd]; exact Tr.refl, ⟨_, upd_same⟩, (rel1.addF hD).wipe rfl (fun _ _ => rfl), upd_same, .nil, by simpa using hl⟩, ?_⟩
        rintro i m H2 ⟨hm, hi2, acc, ρ2, us, t2, _, rel2, hD2, ra2, hl2⟩
        have trD : ∀ a o, some a ∉ O → H1 a = some o → Kp H1 a o H2 ∧ a ≠ D := fun a o n e => by
          have hne : a ≠ D := fun z => by rw [z, hD] at e; cases e
          have z := (t2 a o n (by rw [upd_ne hne]; exact e)).1
          exact ⟨Kp.unupd hne z, hne⟩
        have wk2 := wk (Bad (fun a => F a ∨ a = D) A O) H2 (fun a o n e ht => by
          have z := trD a o (fun z => n (.inr (.inl z))) e
          refine ⟨z.1.nt ht, fun b => ?_⟩
          rcases b with (b | b) | b
          · exact n (.inl b)
          · exact z.2 b
          · exact n (.inr b)) (fun _ n => rel2.good n) i
        split at wk2
        · rename_i d ed
          obtain ⟨hlt, hde⟩ := List.getElem?_eq_some_iff.mp ed
          have hd : ds.drop i = d :: ds.drop (i + 1) := by rw [List.drop_eq_getElem_cons hlt, hde]
          rw [hd] at hl2
          unfold lcLoop at hl2
          obtain ⟨hgo, hy⟩ := wk2
          refine .inr ⟨hgo, fun H3 => ∃ acc ρ2 us, Tr O (upd H1 D (.lst [])) O (upd H3 D (.lst [])) ∧ (∃ o, H3 D = some o) ∧ Rel (fun a => F a ∨ a = D) A O (L2.wipe σ vs) H3 (wipeD ρ2 vs) ∧ H3 D = some (.lst us) ∧ RpAll (Bad (fun a => F a ∨ a = D) A O) H3 us acc ∧ lcLoop vs fg ft fe (ds.drop (i + 1)) acc ρ2 = some (accF, ρF), fun H3 h => ⟨ds.length - (i + 1), by omega, rfl, by omega, h⟩, fun x H' hx => ?_⟩
          obtain ⟨sm, rp⟩ := hy x H' hx
          split at hl2
          · cases hl2
          · rename_i ρ3 e3
            have trU : ∀ {Ha Hb : Hp}, Tr O Ha O Hb → Tr O (upd Ha D (.lst [])) O (upd Hb D (.lst [])) := fun {Ha Hb} t a o n e => by
              refine ⟨?_, n⟩
              by_cases h : a = D
              · subst h; rw [upd_same] at e; exact .of (by rw [upd_same]; exact e)
              · rw [upd_ne h] at e
                have k := (t a o n e).1
                exact ⟨fun nn => by rw [upd_ne h]; exact k.nt nn, fun ps ee => by obtain ⟨qs, z⟩ := k.tb ps ee; exact ⟨qs, by rw [upd_ne h]; exact z⟩⟩
            refine hg _ A O (L2.wipe σ vs) H' (wipeD ρ2 vs) x d ρ3 _ (rel2.grow sm) rp e3 fun σ4 rel4 ln ag => ?_
            have hlen : σ4.length = σ.length := by rw [ln, wipe_length]
            have agv : ∀ j, j ∉ vs → σ4[j]? = σ[j]? := fun j hj => by
              rw [ag j (fun z => hj (his j z)), wipe_out hj]
            refine ⟨wipe_ext hlen agv, ?_⟩
            have hDe : H' D = some (.lst us) := sm D _ hD2
            split at hl2
            · rename_i ρ4 e4
              refine ht _ A O σ4 H' ρ3 _ _ _ rel4 e4 fun H3 t3 rel5 => ?_
              rw [if_pos rfl]
              split at hl2
              · rename_i rr ρ5 e5
                split at hl2
                · rename_i xd ex
                  split at hl2
                  · rename_i c
                    refine he _ A O σ4 H3 ρ4 _ _ _ rel5 e5 (PostE.use fun H4 y t4 rel6 rb => ?_)
                    have tt4 : Tr O H' O H4 := t3.trans t4
                    have hD4 : H4 D = some (.lst us) := tt4.at hO hDe (fun _ z => by cases z)
                    have ra4 : RpAll (Bad (fun a => F a ∨ a = D) A O) H4 us acc := RpAll.tr ra2 ((Tr.same sm).trans tt4)
                    obtain ⟨rel7, bd⟩ := (rel6.wipe hlen agv).updF (p := D) (o := .lst (us ++ [y])) (.inr rfl) hA hD4 trivial
                    refine ⟨us, hD4, by rw [ra2.length]; exact c, acc ++ [xd], ρ5, us ++ [y], ?_, ⟨_, upd_same⟩, rel7, upd_same, RpAll.mono bd (ra4.append (.cons (rb.stab ex) .nil)), hl2⟩
                    rw [upd_upd]
                    exact t2.trans (trU ((Tr.same sm).trans tt4))
                  · cases hl2
                · cases hl2
              · cases hl2
            · rename_i ρ4 e4
              refine ht _ A O σ4 H' ρ3 _ _ _ rel4 e4 fun H3 t3 rel5 => ?_
              rw [if_neg (by decide)]
              have hD3 : H3 D = some (.lst us) := t3.at hO hDe (fun _ z => by cases z)
              exact ⟨acc, ρ4, us, t2.trans (trU ((Tr.same sm).trans t3)), ⟨_, hD3⟩, rel5.wipe hlen agv, hD3, RpAll.tr ra2 ((Tr.same sm).trans t3), hl2⟩
            · cases hl2
        · rename_i ed
          have hge : ds.length ≤ i := List.getElem?_eq_none_iff.mp ed
          rw [List.drop_eq_nil_of_le hge] at hl2
          cases hl2
          obtain ⟨rel8, bd⟩ := rel2.dropF hF hA hO hD2 trivial
          have tr8 : Tr O H1 O (del H2 D) := fun a o n e => by
            have z := trD a o n e
            exact ⟨Kp.del z.2 z.1, n⟩
          have fin := post (del H2 D) D (.lst us) (t1.trans tr8) (rel1.back tr8 no rel8) del_same (.lst (RpAll.mono bd ra2))
          rw [upd_del hD2] at fin
          exact .inl ⟨wk2, fin⟩
      · cases hf
    · cases hf
  · rename_i x ρ1 q
    cases hf
    exact hi F A O σ H ρ _ _ _ rel q post
  · cases hf
theorem ev_lc {elt tg iter : Expr} {ifs : List Expr} {scope : Scope} (own : List (Str × Nat)) {pos : Pos} {wi : TI} {g : TG} {tt : TT} {te : TE} {is : List Nat} {fi : M (List D)} {fg : D → DEnv → Option DEnv} {ft : M Bool} {fe : M R} (hc : X.calm = true) (hN : X.N.Nodup) (hi : EvI X W tg iter wi fi) (ok : BlkOk X.N X.env.scope scope own)
    (hg : ∀ (s : Shared) (H : Hp) (C : Addr) (cl : List (Str × Addr)) (fp : List Addr), ExG (X.blk s H scope (compEnvC scope cl C X.env) fp) is tg g fg)
    (ht : ∀ (s : Shared) (H : Hp) (C : Addr) (cl : List (Str × Addr)) (fp : List Addr), PTs (X.blk s H scope (compEnvC scope cl C X.env) fp) ifs tt ∧ SndT X.mg W0 tt ft)
    (he : ∀ (s : Shared) (H : Hp) (C : Addr) (cl : List (Str × Addr)) (fp : List Addr), Ev (X.blk s H scope (compEnvC scope cl C X.env) fp) W0 elt te fe)
    (his : ∀ i ∈ is, i ∈ own.map (·.2)) (hs : ∀ x, foldedSetIterable iter X.env x = pure x := by intro _; rfl) :
    Ev X W (.ListComp elt [⟨tg, iter, ifs, 0⟩] scope pos) (tLc wi g tt te (own.map (·.2))) (fLc fi (own.map (·.2)) fg ft fe) :=
  ⟨pe_lc hc hN hi.pe ok (fun s H C cl fp => (hg s H C cl fp).pe) (fun s H C cl fp => (ht s H C cl fp).1) (fun s H C cl fp => (he s H C cl fp).pe) hs,
    snd_lc hi.sd (hg X.s_0 (fun _ => none) 0 [] []).sd his (ht X.s_0 (fun _ => none) 0 [] []).2 (he X.s_0 (fun _ => none) 0 [] []).sd⟩
theorem lc_yes : ∀ Y : Cx, PTs Y [] tYes ∧ SndT mg W0 tYes (M.pure true) := fun Y => ⟨pts_nil, fun F A O σ H ρ r ρ' Q rel hf post => by cases hf; exact post H Tr.refl rel⟩
theorem lc_if {Y : Cx} {c : Expr} {t : TT} {f : M Bool} (h : EvT Y W0 c t f) : PTs Y [c] t ∧ SndT Y.mg W0 t f := ⟨pts_one h.pe, h.sd⟩
end
end L3

namespace L3
open PySem L2
variable [Md] [Tb]
/-! ### what a def does -/
abbrev GD := List D → Option (Except Exc D × List D)
def SpIn (ios : List Nat) (n : Nat) (F : Addr → Prop) (A : Nat → Option Addr) (vs : List V) (H : Hp) (ds : List D) : Prop :=
  vs.length = n ∧ ds.length = n ∧ (∀ a, F a → ∃ o, H a = some o) ∧ (∀ i p, A i = some p → i ∈ ios ∧ i < n) ∧ (∀ i j p, A i = some p → A j = some p → i = j) ∧
  ∀ (i : Nat) v d, vs[i]? = some v → ds[i]? = some d → (i ∈ ios → ∃ p o, A i = some p ∧ v = .ref p ∧ ¬ F p ∧ H p = some o ∧ Mu o ∧ OR (BadR F A) H o d) ∧ (i ∉ ios → Rp (BadR F A) H v d)
def Outs (ios : List Nat) (F : Addr → Prop) (A : Nat → Option Addr) (H : Hp) (outs : List D) : Prop := ∀ k i : Nat, ios[k]? = some i → ∃ p o d, A i = some p ∧ H p = some o ∧ Mu o ∧ outs[k]? = some d ∧ OR (BadR F A) H o d
def Kept (A : Nat → Option Addr) (H H' : Hp) : Prop := ∀ a o, (∀ i, A i ≠ some a) → H a = some o → Kp H a o H'
def spD (mg : Str → Option Value) (ios : List Nat) (n : Nat) (G : GD) : Sp := fun vs H Q E => ∃ F A ds r outs, SpIn ios n F A vs H ds ∧ TabsT H ∧ G ds = some (r, outs) ∧ match r with
  | .ok d => ∀ H' v, Kept A H H' → TabsT H' → Outs ios F A H' outs → Rp (BadR F A) H' v d → Q v H'
  | .error x => ∀ H' cls dd, Kept A H H' → TabsT H' → Outs ios F A H' outs → XRp mg F A [] H' x cls dd → E cls dd H'
def envFrom (ios : List Nat) : Nat → List D → DEnv
  | _, [] => []
  | k, d :: ds => some (if k ∈ ios then .io d else .sh d) :: envFrom ios (k + 1) ds
theorem envFrom_length (ios : List Nat) : ∀ (k : Nat) (ds : List D), (envFrom ios k ds).length = ds.length
  | _, [] => rfl
  | k, d :: ds => congrArg (· + 1) (envFrom_length ios (k + 1) ds)
theorem envFrom_get (ios : List Nat) {sv : SV} : ∀ (k : Nat) (ds : List D) (i : Nat), (envFrom ios k ds)[i]? = some (some sv) → ∃ d, ds[i]? = some d ∧ sv = if k + i ∈ ios then .io d else .sh d
  | _, [], i, h => by simp [envFrom] at h
  | k, d :: ds, 0, h => by
    have h' : some (if k ∈ ios then SV.io d else SV.sh d) = some sv := Option.some.inj h
    exact ⟨d, rfl, (Option.some.inj h').symm⟩
  | k, d :: ds, i + 1, h => by
    obtain ⟨d', h1, h2⟩ := envFrom_get ios (k + 1) ds i h
    exact ⟨d', h1, by rw [h2, show k + 1 + i = k + (i + 1) from by omega]⟩
def outsOf (ρ : DEnv) : List Nat → Option (List D)
  | [] => some []
  | i :: is => match ρ[i]?, outsOf ρ is with
    | some (some (.io d)), some ds => some (d :: ds)
    | _, _ => none
def startD (n : Nat) (ios : List Nat) (ds : List D) : DEnv := envFrom ios 0 ds ++ List.replicate (n - ds.length) none
def mkG (n : Nat) (ios : List Nat) (fb : M Fl) : GD := fun ds => match fb (startD n ios ds) with
  | some (.ok (.ret d), ρ) => (outsOf ρ ios).map fun o => (.ok d, o)
  | some (.ok .next, ρ) => (outsOf ρ ios).map fun o => (.ok .non, o)
  | some (.error x, ρ) => (outsOf ρ ios).map fun o => (.error x, o)
  | _ => none
theorem outsOf_ok {ρ : DEnv} {F : Addr → Prop} {A : Nat → Option Addr} {O : List (Option Addr)} {σ : St} {H : Hp} (rel : Rel F A O σ H ρ) : ∀ {ios : List Nat} {outs : List D}, outsOf ρ ios = some outs → Outs ios F A H outs
  | [], outs, h => fun k i e => by simp at e
  | j :: js, outs, h => fun k i e => by
    unfold outsOf at h
    split at h
    · rename_i d ds e1 e2
      cases h
      cases k with
      | zero =>
        cases e
        obtain ⟨p, o, h1, h2, h3, h4, h5, h6⟩ := rel.slot j _ e1
        exact ⟨p, o, d, h2, h4, h5, rfl, h6.ret⟩
      | succ k => exact outsOf_ok rel e2 k i e
    · cases h
theorem spIn_rel {ios : List Nat} {n N : Nat} {F : Addr → Prop} {A : Nat → Option Addr} {vs : List V} {H : Hp} {ds : List D} (h : SpIn ios n F A vs H ds) (htb : TabsT H) (hn : n ≤ N) : Rel F A ((List.range N).map A) (vs.map some ++ List.replicate (N - vs.length) none) H (startD N ios ds) := by
  obtain ⟨h1, h2, h3, h4, h5, h6⟩ := h
  have hO : ∀ (i : Nat) (p : Addr), ((List.range N).map A)[i]? = some (some p) → A i = some p := fun i p e => by
    rw [List.getElem?_map] at e
    obtain ⟨j, e1, e2⟩ := Option.map_eq_some_iff.mp e
    have hlt : i < N := by
      have := (List.getElem?_eq_some_iff.mp e1).1
      rwa [List.length_range] at this
    rw [List.getElem?_range hlt] at e1
    cases e1
    exact e2
  have hA : ∀ i p, A i = some p → ∃ v d, vs[i]? = some v ∧ ds[i]? = some d ∧ i ∈ ios := fun i p e => by
    obtain ⟨a, b⟩ := h4 i p e
    exact ⟨vs[i]'(by omega), ds[i]'(by omega), List.getElem?_eq_getElem _, List.getElem?_eq_getElem _, a⟩
  have dA : ∀ i p, A i = some p → ∃ o, H p = some o := fun i p e => by
    obtain ⟨v, d, e1, e2, hi⟩ := hA i p e
    obtain ⟨p', o, e3, _, _, e4, _⟩ := (h6 i v d e1 e2).1 hi
    rw [e] at e3; cases e3
    exact ⟨o, e4⟩
  have bd : ∀ a u, ¬ BadR F A a → H a = some u → nt u → H a = some u ∧ ¬ Bad F A ((List.range N).map A) a := fun a u nb e _ => ⟨e, fun z => nb (by
    rcases z with z | z | z
    · exact .inl z
    · obtain ⟨i, z⟩ := mem_O.mp z
      exact .inr ⟨i, hO i a z⟩
    · exact .inr z)⟩
  have len : (startD N ios ds).length = N := by unfold startD; rw [List.length_append, envFrom_length, List.length_replicate]; omega
  exact
  { lenO := by rw [len, List.length_map, List.length_range]; exact Nat.le_refl _
    lenS := by rw [len, List.length_append, List.length_map, List.length_replicate]; omega
    dom := h3
    domA := dA
    domO := fun i p e => dA i p (hO i p e)
    inj := fun i j p e1 e2 => h5 i j p (hO i p e1) (hO j p e2)
    tabs := htb
    slot := fun i sv e => by
      unfold startD at e
      by_cases hi : i < ds.length
      · rw [List.getElem?_append_left (by rw [envFrom_length]; exact hi)] at e
        obtain ⟨d, e1, e2⟩ := envFrom_get ios 0 ds i e
        rw [Nat.zero_add] at e2
        have hv : vs[i]? = some (vs[i]'(by omega)) := List.getElem?_eq_getElem _
        have hS : (vs.map some ++ List.replicate (N - vs.length) none)[i]? = some (some (vs[i]'(by omega))) := by
          rw [List.getElem?_append_left (by rw [List.length_map]; omega), List.getElem?_map, hv]; rfl
        obtain ⟨q1, q2⟩ := h6 i _ d hv e1
        by_cases hm : i ∈ ios
        · rw [if_pos hm] at e2
          subst e2
          obtain ⟨p, o, a1, a2, a3, a4, a5, a6⟩ := q1 hm
          refine ⟨p, o, ?_, a1, by rw [hS, a2], a4, a5, OR.mono bd a6⟩
          rw [List.getElem?_map, List.getElem?_range (by omega)]
          exact congrArg some a1
        · rw [if_neg hm] at e2
          subst e2
          exact ⟨_, hS, Rp.mono bd (q2 hm)⟩
      · rw [List.getElem?_append_right (by rw [envFrom_length]; omega)] at e
        have := List.mem_of_getElem? e
        have := List.eq_of_mem_replicate this
        cases this }
section
variable {P : Program} {w : World} {K : PySem.W.Frag} {mg : Str → Option Value} {base : Heap}
/-- a def keeps its promise -/
theorem fnD {x qual : Str} {st : Stmt} {f : Addr} {fd : FuncData} {N ps : List Str} {k : Nat} (ios : List Nat) (fb : M Fl) (Fu : Fun K x qual st f fd) (S : FnScope N ps (defScope st))
    (hb : ∀ (cdv : Value) (A : Around) (outer : List Env) (s : Shared) (H : Hp) (E : XK), Room k (A.deeper (PyProof.Rows.envOfC qual (defScope st) s.heap.objs.size f cdv)) →
      ∃ t, ExB (cxOf (L2.CX P w) P w K mg base N qual (defScope st) f cdv A outer s H E) (fun c d _ H' => E c d H') (defBody st) t fb) :
    FnOk P w K mg base (L2.CX P w) (k + 1) f fd ps (spD mg ios ps.length (mkG N.length ios fb)) := by
  have hN : ps.length ≤ N.length := by
    have := congrArg List.length S.pre
    rw [List.length_take] at this
    omega
  refine Fun.okX Fu S (fun vs H Q E ⟨_, _, _, _, _, h, _⟩ => h.1) fun cdv A outer s H vs Q E hr ⟨F, Aa, ds, r, outs, hin, htb, hG, post⟩ => ?_
  obtain ⟨t, hx⟩ := hb cdv A outer s H E hr
  refine ⟨t, hx.pe, ?_⟩
  have rel := spIn_rel hin htb hN
  have kept : ∀ O' H', Tr ((List.range N.length).map Aa) H O' H' → Kept Aa H H' := fun O' H' tr a o na e => (tr a o (fun z => by
    obtain ⟨j, _, e2⟩ := List.mem_map.mp z
    exact na j e2) e).1
  unfold mkG at hG
  split at hG
  · rename_i d ρ e
    obtain ⟨os, e1, e2⟩ := Option.map_eq_some_iff.mp hG
    cases e2
    exact hx.sd F Aa _ _ H _ _ _ _ rel e fun O' σ' H' v tr rel' rp => post H' v (kept O' H' tr) rel'.tabs (outsOf_ok rel' e1) rp
  · rename_i ρ e
    obtain ⟨os, e1, e2⟩ := Option.map_eq_some_iff.mp hG
    cases e2
    exact hx.sd F Aa _ _ H _ _ _ _ rel e fun O' σ' H' tr rel' => post H' .non (kept O' H' tr) rel'.tabs (outsOf_ok rel' e1) .non
  · rename_i xx ρ e
    obtain ⟨os, e1, e2⟩ := Option.map_eq_some_iff.mp hG
    cases e2
    refine hx.sd F Aa _ _ H _ _ _ _ rel e fun O' σ' H' cls dd tr rel' xr => post H' cls dd (kept O' H' tr) rel'.tabs (outsOf_ok rel' e1) ?_
    obtain ⟨h1, h2⟩ := xr
    refine ⟨h1, ?_⟩
    revert h2
    cases xx.2 with
    | none => exact id
    | some fd =>
      rintro ⟨q, v, e1, e2, e3⟩
      refine ⟨q, v, e1, e2, Rp.mono (fun a u n e _ => ⟨e, fun z => n ?_⟩) e3⟩
      rcases z with z | z | z
      · exact .inl z
      · cases z
      · exact .inr (.inr z)
  · cases hG
end
end L3

namespace L3
open PySem L2
variable [Md] [Tb]
section
variable {X : Cx} {W : WX} {mg : Str → Option Value}
def putC (ρ : DEnv) : List (Nat × D) → DEnv
  | [] => ρ
  | (s, d) :: l => putC (setC ρ s d) l
def svC : SV → D → SV
  | .sh d, _ => .sh d
  | .ow _, d => .ow d
  | .io _, d => .io d
theorem setC_get {ρ : DEnv} {s j : Nat} {d : D} {sv : SV} (h : (setC ρ s d)[j]? = some (some sv)) : (j ≠ s ∧ ρ[j]? = some (some sv)) ∨ (j = s ∧ ∃ sv0, ρ[j]? = some (some sv0) ∧ sv = svC sv0 d) := by
  by_cases hj : j = s
  · subst hj
    refine .inr ⟨rfl, ?_⟩
    unfold setC at h
    split at h
    · rename_i d0 e
      have hlt := (List.getElem?_eq_some_iff.mp e).1
      rw [List.getElem?_set_self hlt] at h
      cases h
      exact ⟨_, e, rfl⟩
    · rename_i d0 e
      have hlt := (List.getElem?_eq_some_iff.mp e).1
      rw [List.getElem?_set_self hlt] at h
      cases h
      exact ⟨_, e, rfl⟩
    · rename_i n1 n2
      cases sv with
      | sh d0 => exact ⟨_, h, rfl⟩
      | ow d0 => exact absurd h (n1 d0)
      | io d0 => exact absurd h (n2 d0)
  · refine .inl ⟨hj, ?_⟩
    unfold setC at h
    split at h
    · rw [List.getElem?_set_ne (Ne.symm hj)] at h; exact h
    · rw [List.getElem?_set_ne (Ne.symm hj)] at h; exact h
    · exact h
theorem setC_length (ρ : DEnv) (s : Nat) (d : D) : (setC ρ s d).length = ρ.length := by
  unfold setC
  split
  · rw [List.length_set]
  · rw [List.length_set]
  · rfl
theorem putC_length : ∀ (l : List (Nat × D)) (ρ : DEnv), (putC ρ l).length = ρ.length
  | [], _ => rfl
  | (s, d) :: l, ρ => by unfold putC; rw [putC_length l, setC_length]
theorem svC_svC {sv : SV} {d d' : D} : svC (svC sv d) d' = svC sv d' := by cases sv <;> rfl
theorem putC_get {j : Nat} {sv : SV} : ∀ (l : List (Nat × D)) (ρ : DEnv), (putC ρ l)[j]? = some (some sv) → ((∀ d, (j, d) ∉ l) ∧ ρ[j]? = some (some sv)) ∨ ∃ d sv0, (j, d) ∈ l ∧ ρ[j]? = some (some sv0) ∧ sv = svC sv0 d
  | [], ρ, h => .inl ⟨fun d z => (List.not_mem_nil z).elim, h⟩
  | (s, d) :: l, ρ, h => by
    unfold putC at h
    rcases putC_get l _ h with ⟨h1, h2⟩ | ⟨d', sv0, h1, h2, h3⟩
    · rcases setC_get h2 with ⟨h3, h4⟩ | ⟨h3, sv0, h4, h5⟩
      · refine .inl ⟨fun d' z => ?_, h4⟩
        rcases List.mem_cons.mp z with z | z
        · cases z; exact h3 rfl
        · exact h1 d' z
      · exact .inr ⟨d, sv0, by rw [h3]; exact List.mem_cons_self, h4, h5⟩
    · rcases setC_get h2 with ⟨h4, h5⟩ | ⟨h4, sv1, h5, h6⟩
      · exact .inr ⟨d', sv0, List.mem_cons_of_mem _ h1, h5, h3⟩
      · exact .inr ⟨d', sv1, List.mem_cons_of_mem _ h1, h5, by rw [h3, h6, svC_svC]⟩
/-- the heap behind a call -/
theorem Rel.change {F : Addr → Prop} {A : Nat → Option Addr} {O : List (Option Addr)} {σ : St} {H H' : Hp} {ρ : DEnv} {l : List (Nat × D)} (rel : Rel F A O σ H ρ) (bd : ∀ a u, ¬ Bad F A O a → H a = some u → nt u → H' a = some u) (htb : TabsT H') (dm : ∀ a u, H a = some u → ∃ u', H' a = some u')
    (hl : ∀ s d, (s, d) ∈ l → ∀ p, O[s]? = some (some p) → ∃ o, H' p = some o ∧ Mu o ∧ OR (Bad F A O) H' o d)
    (hn : ∀ s p, (∀ d, (s, d) ∉ l) → O[s]? = some (some p) → s < ρ.length → ∀ o, H p = some o → nt o → H' p = some o) : Rel F A O σ H' (putC ρ l) := by
  have bd' : ∀ a u, ¬ Bad F A O a → H a = some u → nt u → H' a = some u ∧ ¬ Bad F A O a := fun a u n e ht => ⟨bd a u n e ht, n⟩
  exact
  { lenO := by rw [putC_length]; exact rel.lenO
    lenS := by rw [putC_length]; exact rel.lenS
    dom := fun a z => let ⟨u, e⟩ := rel.dom a z; dm a u e
    domA := fun i a z => let ⟨u, e⟩ := rel.domA i a z; dm a u e
    domO := fun i a z => let ⟨u, e⟩ := rel.domO i a z; dm a u e
    inj := rel.inj
    tabs := htb
    slot := fun j sv e => by
      rcases putC_get l ρ e with ⟨h1, h2⟩ | ⟨d', sv0, h1, h2, h3⟩
      · have q := rel.slot j sv h2
        have hlt := (List.getElem?_eq_some_iff.mp h2).1
        cases sv with
        | sh d => obtain ⟨u, e1, e2⟩ := q; exact ⟨u, e1, Rp.mono bd' e2⟩
        | ow d => obtain ⟨p, o, e1, e2, e3, e4, e5, mu, e6⟩ := q; exact ⟨p, o, e1, e2, e3, e4, hn j p h1 e1 hlt o e5 mu.nt, mu, OR.mono bd' e6⟩
        | io d => obtain ⟨p, o, e1, e3, e4, e5, mu, e6⟩ := q; exact ⟨p, o, e1, e3, e4, hn j p h1 e1 hlt o e5 mu.nt, mu, OR.mono bd' e6⟩
      · have q := rel.slot j sv0 h2
        subst h3
        cases sv0 with
        | sh d => obtain ⟨u, e1, e2⟩ := q; exact ⟨u, e1, Rp.mono bd' e2⟩
        | ow d =>
          obtain ⟨p, o, e1, e2, e3, e4, e5, mu, e6⟩ := q
          obtain ⟨o', a1, a2, a3⟩ := hl j d' h1 p e1
          exact ⟨p, o', e1, e2, e3, e4, a1, a2, a3⟩
        | io d =>
          obtain ⟨p, o, e1, e3, e4, e5, mu, e6⟩ := q
          obtain ⟨o', a1, a2, a3⟩ := hl j d' h1 p e1
          exact ⟨p, o', e1, e3, e4, a1, a2, a3⟩ }
/-! ### the arguments of a call -/
def ioL (rs : List R) : List Nat → List D → List (Nat × D)
  | i :: is, d :: ds => match rs[i]? with
    | some (.slot s) => (s, d) :: ioL rs is ds
    | _ => ioL rs is ds
  | _, _ => []
theorem mem_ioL {rs : List R} {s : Nat} {d : D} : ∀ {ios : List Nat} {outs : List D}, (s, d) ∈ ioL rs ios outs → ∃ k i : Nat, ios[k]? = some i ∧ outs[k]? = some d ∧ rs[i]? = some (.slot s)
  | [], outs, h => by cases outs <;> cases h
  | i :: is, [], h => by cases h
  | i :: is, o :: os, h => by
    unfold ioL at h
    split at h
    · rename_i s' e
      rcases List.mem_cons.mp h with h | h
      · cases h; exact ⟨0, i, rfl, rfl, e⟩
      · obtain ⟨k, i', a, b, c⟩ := mem_ioL h
        exact ⟨k + 1, i', a, b, c⟩
    · obtain ⟨k, i', a, b, c⟩ := mem_ioL h
      exact ⟨k + 1, i', a, b, c⟩
theorem ioL_mem {rs : List R} {s : Nat} {i k : Nat} : ∀ {ios : List Nat} {outs : List D}, ios[k]? = some i → k < outs.length → rs[i]? = some (.slot s) → ∃ d, (s, d) ∈ ioL rs ios outs := by
  induction k with
  | zero =>
    intro ios outs h1 h2 h3
    cases ios with
    | nil => cases h1
    | cons j is =>
      cases h1
      cases outs with
      | nil => exact absurd h2 (Nat.lt_irrefl 0)
      | cons o os =>
        refine ⟨o, ?_⟩
        unfold ioL
        rw [h3]
        exact List.mem_cons_self
  | succ k ih =>
    intro ios outs h1 h2 h3
    cases ios with
    | nil => cases h1
    | cons j is =>
      cases outs with
      | nil => exact absurd h2 (Nat.not_lt_zero _)
      | cons o os =>
        obtain ⟨d, hd⟩ := ih (ios := is) (outs := os) h1 (by simpa using h2) h3
        refine ⟨d, ?_⟩
        unfold ioL
        split
        · exact List.mem_cons_of_mem _ hd
        · exact hd
/-- each argument is what its parameter takes -/
def argOk (ios : List Nat) : Nat → List R → Bool
  | _, [] => true
  | k, .val _ :: rs => !(decide (k ∈ ios)) && argOk ios (k + 1) rs
  | k, .fresh d :: rs => (decide (k ∈ ios) && muD d) && argOk ios (k + 1) rs
  | k, .slot s :: rs => (decide (k ∈ ios) && rs.all fun r => match r with | .slot s' => decide (s ≠ s') | _ => true) && argOk ios (k + 1) rs
theorem argOk_get {ios : List Nat} : ∀ {rs : List R} {k i : Nat} {r : R}, argOk ios k rs = true → rs[i]? = some r → (match r with
  | .val _ => k + i ∉ ios
  | .fresh d => k + i ∈ ios ∧ muD d = true
  | .slot s => k + i ∈ ios ∧ ∀ j, rs[j]? = some (.slot s) → i ≤ j)
  | [], k, i, r, h, e => by simp at e
  | r0 :: rs, k, 0, r, h, e => by
    cases e
    cases r0 with
    | val d => unfold argOk at h; simp only [Bool.and_eq_true, Bool.not_eq_true', decide_eq_false_iff_not] at h; exact h.1
    | fresh d => unfold argOk at h; simp only [Bool.and_eq_true, decide_eq_true_eq] at h; exact h.1
    | slot s => unfold argOk at h; simp only [Bool.and_eq_true, decide_eq_true_eq] at h; exact ⟨h.1.1, fun j _ => Nat.zero_le _⟩
  | r0 :: rs, k, i + 1, r, h, e => by
    have h' : argOk ios (k + 1) rs = true := by
      cases r0 <;> (unfold argOk at h; simp only [Bool.and_eq_true] at h; exact h.2)
    have z := argOk_get h' e
    have ek : k + 1 + i = k + (i + 1) := by omega
    cases r with
    | val d => simp only [ek] at z; exact z
    | fresh d => simp only [ek] at z; exact z
    | slot s =>
      simp only [ek] at z
      refine ⟨z.1, fun j hj => ?_⟩
      cases j with
      | zero =>
        have hs : r0 = .slot s := Option.some.inj hj
        subst hs
        unfold argOk at h
        simp only [Bool.and_eq_true, List.all_eq_true] at h
        have q := h.1.2 _ (List.mem_of_getElem? e)
        simp at q
      | succ j => exact Nat.succ_le_succ (z.2 j hj)
theorem RFs.len {F : Addr → Prop} {A : Nat → Option Addr} {O : List (Option Addr)} {H : Hp} : ∀ {ps : List Addr} {vs : List V} {rs : List R}, RFs F A O H ps vs rs → vs.length = rs.length
  | _, _, _, .nil => rfl
  | _, _, _, .val _ t => congrArg (· + 1) t.len
  | _, _, _, .fresh _ _ t => congrArg (· + 1) t.len
  | _, _, _, .slot t => congrArg (· + 1) t.len
theorem RFs.valAt {F : Addr → Prop} {A : Nat → Option Addr} {O : List (Option Addr)} {H : Hp} {d : D} : ∀ {ps : List Addr} {vs : List V} {rs : List R} {i : Nat}, RFs F A O H ps vs rs → rs[i]? = some (.val d) → ∃ v, vs[i]? = some v ∧ Rp (Bad F A O) H v d
  | _, _, _, _, .nil, e => by simp at e
  | _, _, _, 0, .val r _, e => by cases e; exact ⟨_, rfl, r⟩
  | _, _, _, 0, .fresh _ _ _, e => by cases e
  | _, _, _, 0, .slot _, e => by cases e
  | _, _, _, i + 1, .val _ t, e => RFs.valAt (i := i) t e
  | _, _, _, i + 1, .fresh _ _ t, e => RFs.valAt (i := i) t e
  | _, _, _, i + 1, .slot t, e => RFs.valAt (i := i) t e
theorem RFs.freshAt {F : Addr → Prop} {A : Nat → Option Addr} {O : List (Option Addr)} {H : Hp} {d : D} : ∀ {ps : List Addr} {vs : List V} {rs : List R} {i : Nat}, RFs F A O H ps vs rs → rs[i]? = some (.fresh d) → ∃ p o, p ∈ ps ∧ vs[i]? = some (.ref p) ∧ H p = some o ∧ OR (Bad F A O) H o d
  | _, _, _, _, .nil, e => by simp at e
  | _, _, _, 0, .val r _, e => by cases e
  | _, _, _, 0, .fresh h o _, e => by cases e; exact ⟨_, _, List.mem_cons_self, rfl, h, o⟩
  | _, _, _, 0, .slot _, e => by cases e
  | _, _, _, i + 1, .val _ t, e => RFs.freshAt (i := i) t e
  | _, _, _, i + 1, .fresh _ _ t, e => by
    obtain ⟨p, o, a, b⟩ := RFs.freshAt (i := i) t e
    exact ⟨p, o, List.mem_cons_of_mem _ a, b⟩
  | _, _, _, i + 1, .slot t, e => RFs.freshAt (i := i) t e
theorem RFs.freshInj {F : Addr → Prop} {A : Nat → Option Addr} {O : List (Option Addr)} {H : Hp} {d d' : D} {p : Addr} : ∀ {ps : List Addr} {vs : List V} {rs : List R} {i j : Nat}, RFs F A O H ps vs rs → ps.Nodup → rs[i]? = some (.fresh d) → rs[j]? = some (.fresh d') → vs[i]? = some (.ref p) → vs[j]? = some (.ref p) → i = j
  | _, _, _, _, _, .nil, _, e, _, _, _ => by simp at e
  | _, _, _, 0, 0, _, _, _, _, _, _ => rfl
  | _, _, _, i + 1, 0, .fresh _ _ t, nd, e1, e2, v1, v2 => by
    cases v2
    obtain ⟨q, o, a, b, _⟩ := RFs.freshAt (i := i) t e1
    have v1' : _ = some (V.ref _) := v1
    rw [List.getElem?_cons_succ] at v1'
    rw [v1'] at b; cases b
    exact absurd a (List.nodup_cons.mp nd).1
  | _, _, _, 0, j + 1, .fresh _ _ t, nd, e1, e2, v1, v2 => by
    cases v1
    obtain ⟨q, o, a, b, _⟩ := RFs.freshAt (i := j) t e2
    have v2' : _ = some (V.ref _) := v2
    rw [List.getElem?_cons_succ] at v2'
    rw [v2'] at b; cases b
    exact absurd a (List.nodup_cons.mp nd).1
  | _, _, _, i + 1, 0, .val _ _, _, _, e2, _, _ => by cases e2
  | _, _, _, i + 1, 0, .slot _, _, _, e2, _, _ => by cases e2
  | _, _, _, 0, j + 1, .val _ _, _, e1, _, _, _ => by cases e1
  | _, _, _, 0, j + 1, .slot _, _, e1, _, _, _ => by cases e1
  | _, _, _, i + 1, j + 1, .val _ t, nd, e1, e2, v1, v2 => congrArg (· + 1) (RFs.freshInj (i := i) (j := j) t nd e1 e2 v1 v2)
  | _, _, _, i + 1, j + 1, .fresh _ _ t, nd, e1, e2, v1, v2 => congrArg (· + 1) (RFs.freshInj (i := i) (j := j) t (List.nodup_cons.mp nd).2 e1 e2 v1 v2)
  | _, _, _, i + 1, j + 1, .slot t, nd, e1, e2, v1, v2 => congrArg (· + 1) (RFs.freshInj (i := i) (j := j) t nd e1 e2 v1 v2)
theorem derefs_get {ρ : DEnv} : ∀ {rs : List R} {ds : List D}, derefs ρ rs = some ds → ds.length = rs.length ∧ ∀ (i : Nat) r, rs[i]? = some r → ∃ d, ds[i]? = some d ∧ deref ρ r = some d
  | [], ds, h => by cases h; exact ⟨rfl, fun i r e => by simp at e⟩
  | r :: rs, ds, h => by
    unfold derefs at h
    split at h
    · rename_i d ds' e1 e2
      cases h
      obtain ⟨a, b⟩ := derefs_get e2
      refine ⟨congrArg (· + 1) a, fun i r' e => ?_⟩
      cases i with
      | zero => cases e; exact ⟨d, rfl, e1⟩
      | succ i => exact b i r' e
    · cases h
end
end L3

namespace L3
open PySem L2
variable [Md] [Tb]
section
variable {X : Cx} {W : WX} {mg : Str → Option Value}
def fCall (ios : List Nat) (n : Nat) (G : GD) (fa : M (List R)) : M R := fa.bind fun rs ρ => match derefs ρ rs with
  | some ds => if argOk ios 0 rs = true ∧ ds.length = n ∧ (∀ i ∈ ios, i < n) then match G ds with
    | some (.ok d, outs) => if outs.length = ios.length then some (.ok (.val d), putC ρ (ioL rs ios outs)) else none
    | some (.error x, outs) => if outs.length = ios.length then some (.error x, putC ρ (ioL rs ios outs)) else none
    | none => none else none
  | none => none
theorem snd_call {ios : List Nat} {n : Nat} {G : GD} {t : TA} {fa : M (List R)} (ha : SndF mg W t fa) : Snd mg W (tCallS (spD mg ios n G) (WE W) t) (fCall ios n G fa) := by
  intro F A O σ H ρ r ρ' Q rel hf post
  unfold fCall M.bind at hf
  split at hf
  · rename_i rs ρ1 q
    refine ha F A O σ H ρ _ _ _ rel q fun H1 vs ps t1 rel1 np nd rf sl => ?_
    simp only at hf
    split at hf
    · rename_i ds ed
      split at hf
      · rename_i c
        obtain ⟨ok, hn, hio⟩ := c
        obtain ⟨dl, dg⟩ := derefs_get ed
        have vl := rf.len
        have pO : ∀ p ∈ ps, some p ∉ O := fun p hp z => rel.good (np p hp) (.inr (.inl z))
        -- what stands at each place
        have at' : ∀ i v, vs[i]? = some v → ∃ r d, rs[i]? = some r ∧ ds[i]? = some d ∧ deref ρ1 r = some d := fun i v e => by
          have hlt := (List.getElem?_eq_some_iff.mp e).1
          obtain ⟨d, a, b⟩ := dg i _ (List.getElem?_eq_getElem (by omega))
          exact ⟨_, d, List.getElem?_eq_getElem (by omega), a, b⟩
        let Ac : Nat → Option Addr := fun i => if i ∈ ios then (match vs[i]? with
          | some (.ref p) => some p
          | _ => none) else none
        have hAc : ∀ i p, Ac i = some p → i ∈ ios ∧ vs[i]? = some (.ref p) := fun i p e => by
          simp only [Ac] at e
          split at e
          · rename_i hi
            split at e
            · rename_i p' ev
              cases e
              exact ⟨hi, ev⟩
            · cases e
          · cases e
        have kind : ∀ i p, Ac i = some p → (∃ s, rs[i]? = some (.slot s) ∧ O[s]? = some (some p)) ∨ (∃ d, rs[i]? = some (.fresh d) ∧ p ∈ ps) := fun i p e => by
          obtain ⟨hi, ev⟩ := hAc i p e
          obtain ⟨r, d, er, _, _⟩ := at' i _ ev
          have g := argOk_get ok er
          cases r with
          | val d0 => rw [Nat.zero_add] at g; exact absurd hi g
          | fresh d0 =>
            obtain ⟨p', o, hp, e2, _⟩ := rf.freshAt er
            rw [ev] at e2; cases e2
            exact .inr ⟨d0, er, hp⟩
          | slot s =>
            obtain ⟨p', e1, e2⟩ := sl i s er
            rw [ev] at e2; cases e2
            exact .inl ⟨s, er, e1⟩
        have acBad : ∀ i p, Ac i = some p → Bad (FU F ps) A O p := fun i p e => by
          rcases kind i p e with ⟨s, _, h⟩ | ⟨d, _, h⟩
          · exact .inr (.inl (mem_O.mpr ⟨s, h⟩))
          · exact .inl (.inr h)
        let Fc : Addr → Prop := fun a => Bad (FU F ps) A O a ∧ ∀ i, Ac i ≠ some a
        have bad1 : ∀ a, BadR Fc Ac a → Bad (FU F ps) A O a := fun a z => by
          rcases z with z | ⟨i, z⟩
          · exact z.1
          · exact acBad i a z
        have bad2 : ∀ a, Bad (FU F ps) A O a → BadR Fc Ac a := fun a z => by
          by_cases h : ∃ i, Ac i = some a
          · exact .inr h
          · exact .inl ⟨z, fun i e => h ⟨i, e⟩⟩
        have mo1 : ∀ {H : Hp} a u, ¬ Bad (FU F ps) A O a → H a = some u → nt u → H a = some u ∧ ¬ BadR Fc Ac a := fun {H} a u n e _ => ⟨e, fun z => n (bad1 a z)⟩
        have mo2 : ∀ {H : Hp} a u, ¬ BadR Fc Ac a → H a = some u → nt u → H a = some u ∧ ¬ Bad (FU F ps) A O a := fun {H} a u n e _ => ⟨e, fun z => n (bad2 a z)⟩
        have ioAt : ∀ i, i ∈ ios → ∃ p o d, Ac i = some p ∧ vs[i]? = some (.ref p) ∧ H1 p = some o ∧ Mu o ∧ ds[i]? = some d ∧ OR (Bad (FU F ps) A O) H1 o d := fun i hi => by
          have hlt : i < vs.length := by have := hio i hi; omega
          have ev : vs[i]? = some vs[i] := List.getElem?_eq_getElem hlt
          obtain ⟨r, d, er, edd, ederef⟩ := at' i _ ev
          have g := argOk_get ok er
          cases r with
          | val d0 => rw [Nat.zero_add] at g; exact absurd hi g
          | fresh d0 =>
            obtain ⟨p, o, hp, e2, e3, e4⟩ := rf.freshAt er
            cases ederef
            refine ⟨p, o, d, ?_, e2, e3, e4.mu g.2, edd, e4⟩
            simp only [Ac]
            rw [if_pos hi, e2]
          | slot s =>
            obtain ⟨p, e1, e2⟩ := sl i s er
            obtain ⟨p', o, h1, h2, h3, h4, h5⟩ := rel1.cont ederef
            rw [e1] at h1; cases h1
            refine ⟨p, o, d, ?_, e2, h3, h4, edd, h5⟩
            simp only [Ac]
            rw [if_pos hi, e2]
        have hin : SpIn ios n Fc Ac vs H1 ds := by
          refine ⟨by omega, hn, fun a z => ?_, fun i p e => ?_, fun i j p e1 e2 => ?_, fun i v d ev edd => ⟨fun hi => ?_, fun hi => ?_⟩⟩
          · rcases z.1 with z | z | ⟨i, z⟩
            · exact rel1.dom a z
            · obtain ⟨i, z⟩ := mem_O.mp z
              exact rel1.domO i a z
            · exact rel1.domA i a z
          · obtain ⟨a, b⟩ := hAc i p e
            exact ⟨a, hio i a⟩
          · have v1 := (hAc i p e1).2
            have v2 := (hAc j p e2).2
            rcases kind i p e1 with ⟨s, a1, a2⟩ | ⟨d, a1, a2⟩
            · rcases kind j p e2 with ⟨s', b1, b2⟩ | ⟨d', b1, b2⟩
              · have := rel1.inj s s' p a2 b2
                subst this
                have g1 := argOk_get ok a1
                have g2 := argOk_get ok b1
                exact Nat.le_antisymm (g1.2 j b1) (g2.2 i a1)
              · exact absurd (mem_O.mpr ⟨s, a2⟩) (pO p b2)
            · rcases kind j p e2 with ⟨s', b1, b2⟩ | ⟨d', b1, b2⟩
              · exact absurd (mem_O.mpr ⟨s', b2⟩) (pO p a2)
              · exact rf.freshInj nd a1 b1 v1 v2
          · obtain ⟨p, o, d', a1, a2, a3, a4, a5, a6⟩ := ioAt i hi
            rw [ev] at a2; cases a2
            rw [edd] at a5; cases a5
            exact ⟨p, o, a1, rfl, fun z => z.2 i a1, a3, a4, OR.mono mo1 a6⟩
          · obtain ⟨r, d', er, edd', ederef⟩ := at' i v ev
            rw [edd] at edd'; cases edd'
            have g := argOk_get ok er
            cases r with
            | val d0 =>
              cases ederef
              obtain ⟨v', e1, e2⟩ := rf.valAt er
              rw [ev] at e1; cases e1
              exact Rp.mono mo1 e2
            | fresh d0 => rw [Nat.zero_add] at g; exact absurd g.1 hi
            | slot s => rw [Nat.zero_add] at g; exact absurd g.1 hi
        -- behind the call
        have after : ∀ H' outs, outs.length = ios.length → Kept Ac H1 H' → TabsT H' → Outs ios Fc Ac H' outs → Tr O H O H' ∧ Rel F A O σ H' (putC ρ1 (ioL rs ios outs)) := fun H' outs ol kp tb ou => by
          have bd : ∀ a u, ¬ Bad (FU F ps) A O a → H1 a = some u → nt u → H' a = some u := fun a u n e ht => (kp a u (fun i z => n (acBad i a z)) e).nt ht
          have tr : Tr O H O H' := fun a o n e => by
            refine ⟨(t1 a o n e).1.trans fun o' e' => kp a o' (fun i z => ?_) e', n⟩
            rcases kind i a z with ⟨s, _, h⟩ | ⟨d, _, h⟩
            · exact n (mem_O.mpr ⟨s, h⟩)
            · rw [np a h] at e; cases e
          refine ⟨tr, Rel.weak (F' := FU F ps) (rel1.change bd tb (fun a u e => ?_) (fun s d hm p hp => ?_) (fun s p hm hp hlt o e ht => ?_)) fun a z => .inl z⟩
          · by_cases h : ∃ i, Ac i = some a
            · obtain ⟨i, z⟩ := h
              obtain ⟨k, ek⟩ := List.mem_iff_getElem?.mp (hAc i a z).1
              obtain ⟨p, o, d, b1, b2, _⟩ := ou k i ek
              rw [z] at b1; cases b1
              exact ⟨o, b2⟩
            · exact (kp a u (fun i z => h ⟨i, z⟩) e).ex
          · obtain ⟨k, i, ek, eo, er⟩ := mem_ioL hm
            obtain ⟨p', o, d', b1, b2, b3, b4, b5⟩ := ou k i ek
            rw [eo] at b4; cases b4
            have ev := (hAc i p' b1).2
            obtain ⟨p'', c1, c2⟩ := sl i s er
            rw [ev] at c2; cases c2
            rw [hp] at c1; cases c1
            exact ⟨o, b2, b3, OR.mono mo2 b5⟩
          · refine (kp p o (fun i z => ?_) e).nt ht
            rcases kind i p z with ⟨s', a1, a2⟩ | ⟨d, _, a2⟩
            · have := rel1.inj s s' p hp a2
              subst this
              obtain ⟨k, ek⟩ := List.mem_iff_getElem?.mp (hAc i p z).1
              have hk : k < outs.length := by
                have := (List.getElem?_eq_some_iff.mp ek).1
                omega
              obtain ⟨d, hd⟩ := ioL_mem ek hk a1
              exact hm d hd
            · exact pO p a2 (mem_O.mpr ⟨s, hp⟩)
        have wk : ∀ {H : Hp} a u, ¬ BadR Fc Ac a → H a = some u → nt u → H a = some u ∧ ¬ Bad F A O a := fun {H} a u n e _ => ⟨e, fun z => n (bad2 a (by
          rcases z with z | z
          · exact .inl (.inl z)
          · exact .inr z))⟩
        split at hf
        · rename_i d outs eG
          split at hf
          · rename_i ol
            cases hf
            refine ⟨Fc, Ac, ds, .ok d, outs, hin, rel1.tabs, eG, fun H' v kp tb ou rp => ?_⟩
            obtain ⟨tr, rel2⟩ := after H' outs ol kp tb ou
            exact post H' v tr rel2 (Rp.mono wk rp)
          · cases hf
        · rename_i xx outs eG
          split at hf
          · rename_i ol
            cases hf
            refine ⟨Fc, Ac, ds, .error xx, outs, hin, rel1.tabs, eG, fun H' cls dd kp tb ou xr => ?_⟩
            obtain ⟨tr, rel2⟩ := after H' outs ol kp tb ou
            refine post H' cls dd tr rel2 ?_
            obtain ⟨h1, h2⟩ := xr
            refine ⟨h1, ?_⟩
            revert h2
            cases xx.2 with
            | none => exact id
            | some fd =>
              rintro ⟨q, v, e1, e2, e3⟩
              refine ⟨q, v, e1, e2, Rp.mono (fun a u n e ht => wk a u (fun z => n ?_) e ht) e3⟩
              rcases z with z | z
              · exact .inl z
              · exact .inr (.inr z)
          · cases hf
        · cases hf
      · cases hf
    · cases hf
  · rename_i x ρ1 q
    cases hf
    exact ha F A O σ H ρ _ _ _ rel q post
  · cases hf
theorem ev_call {ios : List Nat} {n : Nat} {G : GD} {k : Nat} {f : Addr} {fd : FuncData} {ps : List Str} {x : Str} {p pos : Pos} {e : Expr} {es : List Expr} {t : TA} {fa : M (List R)} (tk : Takes X W) (Fo : FnOk X.prog X.w X.K X.mg X.base (L2.CX X.prog X.w) k f fd ps (spD X.mg ios n G)) (hr : Room k X.A) (hg : Gl X x) (hm : X.mg x = some (.ref f)) (hk : PySem.W.keepIn X.K (.ref f) = true) (hb : Binds X.K fd ps [])
    (ha : EvF X W (e :: es) t fa) (hdb : (x == ("__debug__" : Str)) = false := by decide) (he : starEach (e :: es) X.env = (false, eval e X.env) :: starEach es X.env := by rfl) (hpl : (backTo pos (starEach es X.env)).any (·.1) = false := by rfl) :
    Ev X W (.Call (.Name x p) (e :: es) [] pos) (tCallS (spD X.mg ios n G) (WE W) t) (fCall ios n G fa) :=
  ⟨pe_callS Fo hr hg hm hk hb (fun σ => passAt tk σ) ha.pe hdb he hpl, snd_call ha.sd⟩
end
end L3

namespace L3
open PySem L2
variable [Md] [Tb]
section
variable {X : Cx} {W : WX} {mg : Str → Option Value}
/-! ### raise -/
def fRaise (x : Str) : M Fl := fun ρ => some (.error (x, none), ρ)
theorem ex_raise {C : Addr} {bmB : List Value} {B newId initId : String} {x m : Str} {j : Nat} {p p2 p3 pos : Pos} (hc : X.calm = true) (tk : Takes X W) (F : ExcBaseFacts B newId initId bmB) (q : PySem.W.excIn X.K C bmB newId = true) (gC : X.mg x = some (.ref C)) (kC : PySem.W.keepIn X.K (.ref C) = true) (r : Raises X (.ref C)) (hg : Gl X x)
    (hdb : (x == ("__debug__" : Str)) = false := by decide) : Ex X W (.Raise (some (.Call (.Name x p) [.Constant (.str m) j p2] [] p3)) none pos) (fun _ σ H => W (.ref C) none σ H) (fRaise x) :=
  ⟨ps_raise hc tk (pmk_own F q gC kC r hg hdb), fun F A O σ H ρ r ρ' E rel hf post => by
    cases hf
    exact post O σ H (.ref C) none Tr.refl rel ⟨gC, rfl⟩⟩
/-! ### try .. except X -/
def fTry (yes no : List Str) (fb fs : M Fl) : M Fl := fun ρ => match fb ρ with
  | some (.error e, ρ1) => if e.1 ∈ yes then fs ρ1 else if e.1 ∈ no then some (.error e, ρ1) else none
  | r => r
theorem ex_try {x : Str} {c : Value} {body suite : List Stmt} {b₀ : Stmt} {np pos pos' : Pos} {tb : WX → TS} {ts : TS} {fb fs : M Fl} (yes no : List Str) (hs : X.stack = X.env :: X.outer) (hf : X.env.frame = some X.env.locals) (hc : Names X x c) (tk : Takes X W)
    (hy : ∀ n ∈ yes, ∀ cls, X.mg n = some cls → PySem.W.exmOne X.K cls c = some true) (hn : ∀ n ∈ no, ∀ cls, X.mg n = some cls → PySem.W.exmOne X.K cls c = some false)
    (hb : ∀ (W' : WX) (pn : List (Addr × Obj)) (xe : Value → Shared → Prop), Takes (X.tr pn xe) W' → PassesOwn (model X.prog X.w) X.A X.env xe → PSs (X.tr pn xe) body (tb W'))
    (hbs : ∀ W' : WX, SndS X.mg W' (tb W') fb)
    (hsu : ∀ (a : Addr) (oe : Obj) (cls : Value) (d : Option Addr) (pn : List (Addr × Obj)), Zc cls d oe → (∃ vs, oe.data = .fields vs) → PSs (X.suite a ((a, oe) :: pn)) (b₀ :: suite) ts)
    (hss : SndS X.mg W ts fs) :
    Ex X W (.Try body [.ExceptHandler (some (.Name x np)) none (b₀ :: suite) pos'] [] [] pos) (fun D σ H => tb (wOnly X.K c (fun _ _ _ => ts) W D) D σ H) (fTry yes no fb fs) := by
  refine ⟨ps_try_only hs hf hc tk hb hsu, ?_⟩
  intro F A O σ H ρ r ρ' E rel hq post
  unfold fTry at hq
  split at hq
  · rename_i e ρ1 q
    split at hq
    · rename_i hm
      refine hbs _ F A O σ H ρ _ _ E rel q fun O' σ' H' cls dd tr rel' xr => ?_
      exact ⟨true, hy _ hm _ xr.1, fun _ a _ => hss F A O' σ' H' ρ1 r ρ' E rel' hq (post.tr tr), (fun z => by cases z)⟩
    · split at hq
      · rename_i hm
        cases hq
        refine hbs _ F A O σ H ρ _ _ E rel q fun O' σ' H' cls dd tr rel' xr => ?_
        exact ⟨false, hn _ hm _ xr.1, (fun z => by cases z), fun _ => post O' σ' H' cls dd tr rel' xr⟩
      · cases hq
  · rename_i hne
    refine hbs _ F A O σ H ρ r ρ' E rel hq ?_
    match r, post, hne, hq with
    | .ok .next, post, _, _ => exact post
    | .ok .brk, post, _, _ => exact post
    | .ok .cont, post, _, _ => exact post
    | .ok (.ret d), post, _, _ => exact post
    | .error e, _, hne, hq => exact absurd hq (hne e ρ')
/-! ### sorted of pairs of small ints -/
def pairD (p : Int × Int) : D := .tup [.int p.1, .int p.2]
def pairOk (p : Int × Int) : Bool := decide (0 ≤ p.1) && (decide (p.1 < 64) && (decide (0 ≤ p.2) && decide (p.2 < 64)))
def pairsD : List D → Option (List (Int × Int))
  | [] => some []
  | .tup [.int i, .int j] :: r => match pairsD r with
    | some ps => if pairOk (i, j) = true then some ((i, j) :: ps) else none
    | none => none
  | _ :: _ => none
def keyP (p : Int × Int) : Int := p.1 * 64 + p.2
def sortP (ps : List (Int × Int)) : List (Int × Int) := ps.mergeSort fun a b => decide (keyP a ≤ keyP b)
theorem sortP_perm (ps : List (Int × Int)) : (sortP ps).Perm ps := List.mergeSort_perm _ _
theorem sortP_sorted (ps : List (Int × Int)) : (sortP ps).Pairwise fun a b => keyP a ≤ keyP b := by
  have h := List.pairwise_mergeSort (le := fun a b : Int × Int => decide (keyP a ≤ keyP b)) (fun a b c h1 h2 => by simp only [decide_eq_true_eq] at *; omega) (fun a b => by simp only [Bool.or_eq_true, decide_eq_true_eq]; omega) ps
  exact h.imp fun {a b} q => of_decide_eq_true q
theorem pairOk_iff {p : Int × Int} : pairOk p = true ↔ 0 ≤ p.1 ∧ p.1 < 64 ∧ 0 ≤ p.2 ∧ p.2 < 64 := by
  unfold pairOk
  simp only [Bool.and_eq_true, decide_eq_true_eq]
theorem sortP_uniq {ps qs : List (Int × Int)} (ok : ∀ p ∈ ps, pairOk p = true) (h : qs.Perm ps) (s : qs.Pairwise fun a b => keyP a ≤ keyP b) : qs = sortP ps := by
  refine List.Perm.eq_of_pairwise (le := fun a b => keyP a ≤ keyP b) (fun a b ha hb h1 h2 => ?_) s (sortP_sorted ps) (h.trans (sortP_perm ps).symm)
  have oa := pairOk_iff.mp (ok a (h.mem_iff.mp ha))
  have ob := pairOk_iff.mp (ok b ((sortP_perm ps).mem_iff.mp hb))
  unfold keyP at h1 h2
  exact Prod.ext (by omega) (by omega)
theorem pairsD_eq : ∀ {ds : List D} {ps : List (Int × Int)}, pairsD ds = some ps → ds = ps.map pairD ∧ ∀ p ∈ ps, pairOk p = true := by
  intro ds
  induction ds with
  | nil => intro ps h; cases h; exact ⟨rfl, fun p hp => by cases hp⟩
  | cons d ds ih =>
    intro ps h
    unfold pairsD at h
    split at h
    · rename_i heq; cases heq
    · rename_i i j r heq
      cases heq
      split at h
      · rename_i qs e
        split at h
        · rename_i c
          cases h
          obtain ⟨h1, h2⟩ := ih e
          refine ⟨by rw [h1]; rfl, fun p hp => ?_⟩
          rcases List.mem_cons.mp hp with rfl | hp
          · exact c
          · exact h2 p hp
        · cases h
      · cases h
    · cases h
theorem pairsD_map : ∀ {ps : List (Int × Int)}, (∀ p ∈ ps, pairOk p = true) → pairsD (ps.map pairD) = some ps
  | [], _ => rfl
  | p :: ps, h => by
    have ih := pairsD_map (ps := ps) fun q hq => h q (List.mem_cons_of_mem _ hq)
    show pairsD (.tup [.int p.1, .int p.2] :: ps.map pairD) = _
    unfold pairsD
    rw [ih]
    simp only
    rw [if_pos (h p List.mem_cons_self)]
theorem rp_permP {B : Addr → Prop} {H : Hp} {vs ys : List V} (h : ys.Perm vs) : ∀ {ps : List (Int × Int)}, RpAll B H vs (ps.map pairD) → ∃ qs : List (Int × Int), qs.Perm ps ∧ RpAll B H ys (qs.map pairD) := by
  induction h with
  | nil => intro ps r; exact ⟨ps, List.Perm.refl _, r⟩
  | cons x h ih =>
    intro ps r
    cases ps with
    | nil => cases r
    | cons p ps =>
      cases r with
      | cons r1 t =>
        obtain ⟨qs, h1, h2⟩ := ih t
        exact ⟨p :: qs, h1.cons p, .cons r1 h2⟩
  | swap x y l =>
    intro ps r
    match ps, r with
    | p :: q :: ps, .cons r1 (.cons r2 t) => exact ⟨q :: p :: ps, List.Perm.swap _ _ _, .cons r2 (.cons r1 t)⟩
  | trans h1 h2 ih1 ih2 =>
    intro ps r
    obtain ⟨qs, a, b⟩ := ih2 r
    obtain ⟨ts, c, d⟩ := ih1 b
    exact ⟨ts, c.trans a, d⟩
theorem rp_tupI {K : PySem.W.Frag} {B : Addr → Prop} {H : Hp} {v : V} {p : Int × Int} (r : Rp B H v (pairD p)) : TupI K H v [p.1, p.2] := by
  obtain ⟨a, o, vs, rfl, e, t, q, _⟩ := Rb.tup (.inl r)
  refine ⟨a, rfl, ?_⟩
  have ev : vs = [V.int p.1, V.int p.2] := q.ints (ns := [p.1, p.2]) rfl
  rw [ev] at t
  exact t.sq e
theorem rp_pairwise {K : PySem.W.Frag} {B : Addr → Prop} {H : Hp} : ∀ {ys : List V} {qs : List (Int × Int)}, RpAll B H ys (qs.map pairD) → ys.Pairwise (fun x y => ∀ n m, TupI K H x n → TupI K H y m → TS.code 64 n ≤ TS.code 64 m) → qs.Pairwise fun a b => keyP a ≤ keyP b := by
  intro ys
  induction ys with
  | nil => intro qs r _; cases qs with
    | nil => exact .nil
    | cons _ _ => cases r
  | cons y ys ih =>
    intro qs r pw
    cases qs with
    | nil => exact .nil
    | cons q qs =>
      cases r with
      | cons r1 t =>
        obtain ⟨p1, p2⟩ := List.pairwise_cons.mp pw
        refine List.pairwise_cons.mpr ⟨fun b hb => ?_, ih t p2⟩
        obtain ⟨k, hk⟩ := List.mem_iff_getElem?.mp hb
        obtain ⟨v, e1, e2⟩ := t.get (i := k) (d := pairD b) (by rw [List.getElem?_map, hk]; rfl)
        have z := p1 v (List.mem_of_getElem? e1) _ _ (rp_tupI (K := K) r1) (rp_tupI (K := K) e2)
        rw [code_pair, code_pair] at z
        exact z
def gSortedP : List D → Option R
  | [.lst ds] => match pairsD ds with
    | some ps => if ds.length < 64 then some (.fresh (.lst ((sortP ps).map pairD))) else none
    | none => none
  | _ => none
theorem ad_sortedP {K : PySem.W.Frag} : AdC (rSortU K 2 64) gSortedP := by
  intro B H vs ds z Q gd rv e
  unfold gSortedP at e
  split at e
  · rename_i ds
    split at e
    · rename_i ps en
      split at e
      · rename_i hl
        cases e
        obtain ⟨v, rfl, r⟩ := rv.one
        obtain ⟨a, us, rfl, ea, ra⟩ := r.lst
        obtain ⟨h1, h2⟩ := pairsD_eq en
        subst h1
        refine ⟨noslotF _, fun pp => ⟨a, us, rfl, SqL.of ea, by rw [ra.length]; exact hl, fun x hx => ?_, fun ys p hp hs hn => ?_⟩⟩
        · obtain ⟨k, hk⟩ := List.mem_iff_getElem?.mp hx
          obtain ⟨d, e1, e2⟩ := ra.get' hk
          rw [List.getElem?_map] at e1
          obtain ⟨q, e3, e4⟩ := Option.map_eq_some_iff.mp e1
          subst e4
          have oq := pairOk_iff.mp (h2 q (List.mem_of_getElem? e3))
          refine ⟨[q.1, q.2], rp_tupI e2, rfl, fun m hm => ?_⟩
          rcases List.mem_cons.mp hm with rfl | hm
          · exact ⟨oq.1, oq.2.1⟩
          · rw [List.mem_singleton.mp hm]; exact oq.2.2
        · obtain ⟨qs, h3, h4⟩ := rp_permP hp ra
          have := sortP_uniq h2 h3 (rp_pairwise h4 hs)
          subst this
          exact pp p _ hn (.lst h4)
      · cases e
    · cases e
  · cases e
end
end L3

namespace L3
open PySem L2
variable [Md] [Tb]
/-! ### the law's own loop -/
def diceD (x y z : Int) : D := .lst [.int x, .int y, .int z]
def spDice : Sp := fun vs H Q _ => ∃ c : Int, vs = [.int c] ∧ ∀ p x y z, H p = none → Q (.ref p) (upd H p (.lst [.int x, .int y, .int z]))
def spRounds (K : PySem.W.Frag) : Sp := fun vs H Q _ => ∃ (a : Addr) (ns : List Int) (m : Int), vs = [.ref a, .int m] ∧ SqL K H a (ns.map V.int) ∧ ns.length ≤ 63 ∧
  ∀ (L : Addr) (ps : List Addr) (H' : Hp), Same H H' → H L = none → (∀ p ∈ ps, H p = none) → ps.Nodup → L ∉ ps → H' L = some (.lst (ps.map V.ref)) → (∀ p ∈ ps, ∃ x y z : Int, H' p = some (.lst [.int x, .int y, .int z])) → Q (.ref L) H'
def spLaw (K : PySem.W.Frag) : Sp := fun vs H Q _ => ∃ (a : Addr) (ns : List Int), vs = [.ref a] ∧ SqL K H a (ns.map V.int) ∧ ns.length ≤ 63 ∧ TabsT H ∧ ∀ H', Q (.bl true) H'
def startLaw (n : Nat) (x y z : Int) : DEnv := (List.replicate n none).set 1 (some (.ow (diceD x y z)))
section
variable {X : Cx} {W : WX} {mg : Str → Option Value}
theorem Rel.forget {F : Addr → Prop} {A : Nat → Option Addr} {O : List (Option Addr)} {σ : St} {H : Hp} {ρ : DEnv} (rel : Rel F A O σ H ρ) : Rel F A O σ H (List.replicate ρ.length none) :=
  { lenO := by rw [List.length_replicate]; exact rel.lenO
    lenS := by rw [List.length_replicate]; exact rel.lenS
    dom := rel.dom
    domA := rel.domA
    domO := rel.domO
    inj := rel.inj
    tabs := rel.tabs
    slot := fun i sv e => by
      have := List.eq_of_mem_replicate (List.mem_of_getElem? e)
      cases this }
/-- one round after another -/
theorem law_loop {K : PySem.W.Frag} {tb : TS} {fb : M Fl} {n : Nat} (h1n : 1 < n) (hs : SndS mg W tb fb) (hb : ∀ x y z : Int, ∃ ρ', fb (startLaw n x y z) = some (.ok .next, ρ') ∧ ρ'.length = n) {D : Ends} {σ : St} {H : Hp} (hσ : σ.length = n) {L : Addr} {ps : List Addr}
    (nd : ps.Nodup) (hL : L ∉ ps) (eL : H L = some (.lst (ps.map V.ref))) (ep : ∀ p ∈ ps, ∃ x y z : Int, H p = some (.lst [.int x, .int y, .int z])) (htb : TabsT H) (fin : ∀ σ' H', D.nx σ' H') :
    ∃ Wv : Nat → Nat → St → Hp → Prop, (∃ m, Wv 0 m σ H) ∧ ∀ i m σ H, Wv i m σ H →
      ((Itl K L).stop i H ∧ D.nx σ H) ∨ ((Itl K L).go i H ∧ ∃ N : St → Hp → Prop, (∀ σ' H', N σ' H' → ∃ m', m' < m ∧ Wv (i + 1) m' σ' H') ∧ ∀ x H', (Itl K L).yld i H x H' → gName 1 x σ H' fun σ2 H2 => tb { D with nx := N, ct := N, bk := D.nx } σ2 H2) := by
  refine for_list (xs := ps.map V.ref) (fun i σ H => ∃ O ρ, Rel (fun a => a = L ∨ a ∈ ps.drop i) (fun _ => none) O σ H ρ ∧ ρ.length = n ∧ H L = some (.lst (ps.map V.ref)) ∧ (∀ p ∈ ps.drop i, ∃ x y z : Int, H p = some (.lst [.int x, .int y, .int z])) ∧ some L ∉ O ∧ ∀ p ∈ ps.drop i, some p ∉ O) ?_ ?_ ?_ (fun σ H _ => fin σ H)
  · have no : ∀ (p : Addr), some p ∉ (List.replicate n none : List (Option Addr)) := fun p z => by
      have := List.eq_of_mem_replicate z
      cases this
    refine ⟨List.replicate n none, List.replicate n none, ?_, by simp, eL, fun p hp => ep p (by simpa using hp), no L, fun p _ => no p⟩
    exact
    { lenO := by simp
      lenS := by simp [hσ]
      dom := fun a z => by
        rcases z with rfl | z
        · exact ⟨_, eL⟩
        · obtain ⟨x, y, u, e⟩ := ep a (by simpa using z)
          exact ⟨_, e⟩
      domA := fun i a z => by cases z
      domO := fun i p z => absurd (List.mem_of_getElem? z) (no p)
      inj := fun i j p z _ => absurd (List.mem_of_getElem? z) (no p)
      tabs := htb
      slot := fun i sv e => by
        have := List.eq_of_mem_replicate (List.mem_of_getElem? e)
        cases this }
  · rintro i σ H _ ⟨O, ρ, _, _, e, _⟩
    exact SqL.of e
  · rintro i x σ H hx ⟨O, ρ, rel, hρ, e, ed, nL, nP⟩
    rw [List.getElem?_map] at hx
    obtain ⟨p, ex, rfl⟩ := Option.map_eq_some_iff.mp hx
    obtain ⟨hlt, hpe⟩ := List.getElem?_eq_some_iff.mp ex
    have hd : ps.drop i = p :: ps.drop (i + 1) := by rw [List.drop_eq_getElem_cons hlt, hpe]
    have hm : p ∈ ps := List.mem_of_getElem? ex
    have hpL : L ≠ p := fun z => hL (by rw [z]; exact hm)
    have ndd : (p :: ps.drop (i + 1)).Nodup := by rw [← hd]; exact nd.sublist (List.drop_sublist _ _)
    obtain ⟨n1, n2⟩ := List.nodup_cons.mp ndd
    rw [hd] at rel ed nP
    obtain ⟨x, y, z, ex3⟩ := ed p List.mem_cons_self
    let F' : Addr → Prop := fun a => a = L ∨ a ∈ ps.drop (i + 1)
    have eF : (fun a => a = L ∨ a ∈ p :: ps.drop (i + 1)) = fun a => F' a ∨ a = p := by
      funext a
      refine propext ⟨fun z => ?_, fun z => ?_⟩
      · rcases z with z | z
        · exact .inl (.inl z)
        · rcases List.mem_cons.mp z with z | z
          · exact .inr z
          · exact .inl (.inr z)
      · rcases z with (z | z) | z
        · exact .inl z
        · exact .inr (List.mem_cons_of_mem _ z)
        · exact .inr (by rw [z]; exact List.mem_cons_self)
    rw [eF] at rel
    have rel1 := rel.forget
    rw [hρ] at rel1
    have hF' : ¬ F' p := fun z => by
      rcases z with z | z
      · exact hpL z.symm
      · exact n1 z
    obtain ⟨rel2, hsub⟩ := rel1.setO (F := F') (i := 1) (p := p) (o := .lst [.int x, .int y, .int z]) (d := diceD x y z) (by simpa using h1n) hF' (fun j q => by cases q) (nP p List.mem_cons_self) ex3 trivial (.lst (rpAll_ints _ _ [x, y, z]))
    obtain ⟨ρ', hfb, hln⟩ := hb x y z
    refine hs F' _ _ _ H (startLaw n x y z) _ _ _ rel2 hfb fun O' σ' H' tr rel' => ?_
    have keep : ∀ a, a ≠ p → some a ∉ O → ∀ o, H a = some o → nt o → H' a = some o ∧ some a ∉ O' := fun a hne hO o he ht => by
      have k := tr a o (fun q => by
        rcases hsub a q with q | q
        · exact hne q
        · exact hO q) he
      exact ⟨k.1.nt ht, k.2⟩
    refine ⟨O', ρ', rel', hln, (keep L hpL nL _ e (fun _ z => by cases z)).1, fun q hq => ?_, (keep L hpL nL _ e (fun _ z => by cases z)).2, fun q hq => ?_⟩
    · obtain ⟨x, y, z, e3⟩ := ed q (List.mem_cons_of_mem _ hq)
      exact ⟨x, y, z, (keep q (fun z => n1 (by rw [← z]; exact hq)) (nP q (List.mem_cons_of_mem _ hq)) _ e3 (fun _ z => by cases z)).1⟩
    · obtain ⟨x, y, z, e3⟩ := ed q (List.mem_cons_of_mem _ hq)
      exact (keep q (fun z => n1 (by rw [← z]; exact hq)) (nP q (List.mem_cons_of_mem _ hq)) _ e3 (fun _ z => by cases z)).2
end
section
variable {W : WX} {mg : Str → Option Value}
theorem law_read {K : PySem.W.Frag} {tb : TS} {fb : M Fl} {n : Nat} {m : Int} (h1n : 1 < n) (hs : SndS mg W tb fb) (hb : ∀ x y z : Int, ∃ ρ', fb (startLaw n x y z) = some (.ok .next, ρ') ∧ ρ'.length = n) {D : Ends} {σ : St} {H : Hp} (hσ : σ.length = n) {a : Addr} {ns : List Int} (h0 : σ[0]? = some (some (.ref a))) (hS : SqL K H a (ns.map V.int)) (h63 : ns.length ≤ 63) (htb : TabsT H) {E : St → XK} (hq : ∀ H', D.rt (.bl true) H') :
    tSeq (tFor (iList K (tCallS (spRounds K) E (tCons (tVar 0) (tCons (tC (.int m)) tNil)))) (gName 1) tb) (tRet (tC (.bl true))) D σ H := by
  refine ⟨_, h0, a, ns, m, rfl, hS, h63, fun L ps H' sm nL nP nd hL eL ep => ⟨L, rfl, ⟨_, SqL.of eL⟩, ?_⟩⟩
  exact law_loop h1n hs hb hσ nd hL eL ep (htb.ext sm) fun σ' H' => hq H'
end
end L3

namespace L3
open PySem L2
variable [Md] [Tb]
section
variable {X : Cx} {W : WX} {mg : Str → Option Value}
/-! ### a, b, .. = e, f, .. by way of a tuple -/
def gNames : List (Nat × Bool) → TGs
  | [] => gNil
  | (i, _) :: ts => gCons (gName i) (gNames ts)
theorem gNames_ok {H : Hp} {Q : St → Hp → Prop} : ∀ (ts : List (Nat × Bool)) (vs : List V) (σ : St), vs.length = ts.length → Q (setAll ts vs σ) H → gNames ts vs σ H Q
  | [], vs, σ, h, q => by
    cases vs with
    | nil => exact ⟨rfl, q⟩
    | cons _ _ => cases h
  | (i, b) :: ts, vs, σ, h, q => by
    cases vs with
    | nil => cases h
    | cons v vs => exact ⟨v, vs, rfl, gNames_ok ts vs (σ.set i (some v)) (by simpa using h) q⟩
theorem par_ok2 {es : List Expr} {t : TA} {f : M (List R)} {ts : List (Nat × Bool)} (h : EvF X W es t f) {F : Addr → Prop} {A : Nat → Option Addr} {O : List (Option Addr)} {σ : St} {H : Hp} {ρ : DEnv} {r : Except Exc Fl} {ρ' : DEnv} {E : Ends} (rel : Rel F A O σ H ρ) (hf : fPar ts f ρ = some (r, ρ')) (post : PostS X.mg W F A O H ρ' E r) {K : List V → Hp → Prop}
    (k : ∀ vs H1, vs.length = ts.length → (∀ H2, Same H1 H2 → E.nx (setAll ts vs σ) H2) → K vs H1) : t σ H K := by
  unfold fPar M.bind at hf
  split at hf
  · rename_i rs ρ1 q
    refine h.sd F A O σ H ρ _ _ _ rel q fun H' vs ps tr rel' np nd rf _ => ?_
    simp only at hf
    split at hf
    · rename_i ρ2 e
      cases hf
      have bad : ∀ p ∈ ps, ¬ Bad F A O p := fun p hp => rel.good (np p hp)
      obtain ⟨O', h1, h2, h3⟩ := asgAll_ok ts ps vs rs O σ ρ1 ρ' rel' rf nd (fun p hp => ⟨fun z => bad p hp (.inl z), fun j z => bad p hp (.inr (.inr ⟨j, z⟩)), fun z => bad p hp (.inr (.inl z))⟩) e
      refine k vs H' h2 fun H2 sm => (post O' _ H2 (fun a o n e => ⟨(tr a o n e).1.trans fun o' e' => .of (sm _ _ e'), fun z => ?_⟩) (h1.grow sm))
      rcases h3 a z with z | z
      · exact n z
      · rw [np a z] at e; cases e
    · cases hf
  · rename_i x ρ1 q
    cases hf
    exact h.sd F A O σ H ρ _ _ _ rel q fun H' cls dd tr rel' xr => post O σ H' cls dd tr rel' xr
  · cases hf
theorem ex_unp {ts : List (Nat × Bool)} {tgs es : List Expr} {ta : TA} {f : M (List R)} {kt k2 : Nat} {pt pt2 pos : Pos} (hg : PG X (.Tuple tgs kt pt) (gTup X.K ts.length (gNames ts))) (ha : EvF X W es ta f) (hz : ts.length ≤ sizeLine := by decide)
    (hs : swapsWithSole [.Tuple tgs kt pt] (.Tuple es k2 pt2) pos.line X.env = pure false := by rfl) (hw : swappedStores [.Tuple tgs kt pt] (.Tuple es k2 pt2) X.env = pure none := by rfl)
    (h1 : (assignEach [.Tuple tgs kt pt] X.env).map (·.2) = [assign (.Tuple tgs kt pt) X.env] := by rfl) :
    Ex X W (.Assign [.Tuple tgs kt pt] (.Tuple es k2 pt2) pos) (tAsg (tTupM ta) (gTup X.K ts.length (gNames ts))) (fPar ts f) := by
  refine ⟨ps_asg (pe_tupM ha.pe) hg hs hw h1, ?_⟩
  intro F A O σ H ρ r ρ' E rel hq post
  exact par_ok2 ha rel hq post fun vs H1 hl h => ⟨by rw [hl]; exact hz, fun p o ot hp => ⟨p, vs, rfl, ot.sq upd_same, hl, gNames_ok ts vs σ hl (h _ (same_new hp o))⟩⟩
/-! ### x op= e, of ints -/
def fAug (i : Nat) (op : Int → Int → Int) (fe : M R) : M Fl := fun ρ0 => match ρ0[i]? with
  | some (some (.sh (.int a))) => (fe.bind fun r ρ => match deref ρ r with
    | some (.int b) => if noIo ρ i = true then some (.ok .next, ρ.set i (some (.sh (.int (op a b))))) else none
    | _ => none) ρ0
  | _ => none
theorem ex_aug {i : Nat} {x : Str} {e : Expr} {te : TE} {f : M R} {op : Operator} {g : Int → Int → Int} {pos' pos : Pos} (hN : X.N.Nodup) (hi : X.N[i]? = some x) (hx : Loc X.env.scope x) (he : Ev X W e te f) (ho : PIp X op (ipI g)) (hf : X.fn x = true ∨ X.env.scope.names.lookup x = some .local := by first | exact .inl rfl | exact .inr rfl | assumption) :
    Ex X W (.AugAssign (.Name x pos') op e pos) (tAug i te (ipI g)) (fAug i g f) := by
  refine ⟨ps_aug hN hi hx he.pe ho hf, ?_⟩
  intro F A O σ H ρ r ρ' E rel hq post
  unfold fAug at hq
  split at hq
  · rename_i a ea
    obtain ⟨v, e1, e2⟩ := rel.slot i _ ea
    have ev := Rb.int (.inl e2)
    subst ev
    refine ⟨_, e1, he.sd.then rel hq post.err fun H1 v x ρ1 t1 rel1 rb hf1 => ?_⟩
    split at hf1
    · rename_i b eb
      split at hf1
      · rename_i c
        cases hf1
        refine ⟨a, b, rfl, (rb.rb rel1 eb).int, ?_⟩
        obtain ⟨tr, rel2⟩ := rel1.setS (v := .int (g a b)) (noIo_lt c) (.int _)
        exact post _ _ _ (t1.trans tr) rel2
      · cases hf1
    · cases hf1
  · cases hq
/-! ### an owned thing is shared from here on -/
def shareD (i : Nat) (ρ : DEnv) : Option DEnv := match ρ[i]? with
  | some (some (.ow d)) => some (ρ.set i (some (.sh d)))
  | _ => none
theorem Rel.share {F : Addr → Prop} {A : Nat → Option Addr} {O : List (Option Addr)} {σ : St} {H : Hp} {ρ ρ' : DEnv} {i : Nat} (rel : Rel F A O σ H ρ) (e : shareD i ρ = some ρ') : ∃ O', Tr O H O' H ∧ Rel F A O' σ H ρ' := by
  unfold shareD at e
  split at e
  · rename_i d ei
    cases e
    obtain ⟨p, o, e1, e2, e3, e4, e5, mu, e6⟩ := rel.slot i _ ei
    have hi := (List.getElem?_eq_some_iff.mp ei).1
    have hsub : ∀ (j : Nat) (q : Addr), (O.set i none)[j]? = some (some q) → j ≠ i ∧ O[j]? = some (some q) := fun j q e => by
      rw [List.getElem?_set] at e
      split at e
      · split at e <;> cases e
      · rename_i h; exact ⟨fun z => h z.symm, e⟩
    have hm : ∀ a, some a ∈ O.set i none → some a ∈ O := fun a h => by
      obtain ⟨j, e⟩ := mem_O.mp h
      exact mem_O.mpr ⟨j, (hsub j a e).2⟩
    have hp : some p ∉ O.set i none := fun h => by
      obtain ⟨j, e⟩ := mem_O.mp h
      obtain ⟨a, b⟩ := hsub j p e
      exact a (rel.inj j i p b e1)
    have bd : ∀ a u, ¬ Bad F A O a → H a = some u → nt u → H a = some u ∧ ¬ Bad F A (O.set i none) a := fun a u n e _ => ⟨e, fun z => n (by
      rcases z with z | z | z
      · exact .inl z
      · exact .inr (.inl (hm a z))
      · exact .inr (.inr z))⟩
    have rp : Rp (Bad F A (O.set i none)) H (.ref p) d := .ob e5 (fun z => by
      rcases z with z | z | ⟨j, z⟩
      · exact e2 z
      · exact hp z
      · exact e3 j z) (OR.mono bd e6)
    refine ⟨O.set i none, fun a o n e => ⟨.of e, fun z => n (hm a z)⟩, ?_⟩
    exact
    { lenO := by rw [List.length_set, List.length_set]; exact rel.lenO
      lenS := by rw [List.length_set]; exact rel.lenS
      dom := rel.dom
      domA := rel.domA
      domO := fun j q e => rel.domO j q (hsub j q e).2
      inj := fun j k q a b => rel.inj j k q (hsub j q a).2 (hsub k q b).2
      tabs := rel.tabs
      slot := fun j sv e => by
        by_cases hj : j = i
        · subst hj
          rw [List.getElem?_set_self hi] at e
          cases e
          exact ⟨_, e4, rp⟩
        · rw [List.getElem?_set_ne (Ne.symm hj)] at e
          have q := rel.slot j sv e
          have hO : (O.set i none)[j]? = O[j]? := List.getElem?_set_ne (Ne.symm hj)
          cases sv with
          | sh d => obtain ⟨u, e1, e2⟩ := q; exact ⟨u, e1, Rp.mono bd e2⟩
          | ow d => obtain ⟨p, o, e1, e2, e3, e4, e5, mu, e6⟩ := q; exact ⟨p, o, by rw [hO]; exact e1, e2, e3, e4, e5, mu, OR.mono bd e6⟩
          | io d => obtain ⟨p, o, e1, e3, e4, e5, mu, e6⟩ := q; exact ⟨p, o, by rw [hO]; exact e1, e3, e4, e5, mu, OR.mono bd e6⟩ }
  · cases e
def fShare (i : Nat) (f : M Fl) : M Fl := fun ρ => match shareD i ρ with
  | some ρ1 => f ρ1
  | none => none
theorem exb_share {i : Nat} {sts : List Stmt} {t : TS} {f : M Fl} (h : ExB X W sts t f) : ExB X W sts t (fShare i f) := ⟨h.pe, fun F A O σ H ρ r ρ' E rel hf post => by
  unfold fShare at hf
  split at hf
  · rename_i ρ1 e
    obtain ⟨O', tr, rel1⟩ := rel.share e
    exact h.sd F A O' σ H ρ1 r ρ' E rel1 hf (post.tr tr)
  · cases hf⟩
theorem ex_share {i : Nat} {sts : Stmt} {t : TS} {f : M Fl} (h : Ex X W sts t f) : Ex X W sts t (fShare i f) := ⟨h.pe, fun F A O σ H ρ r ρ' E rel hf post => by
  unfold fShare at hf
  split at hf
  · rename_i ρ1 e
    obtain ⟨O', tr, rel1⟩ := rel.share e
    exact h.sd F A O' σ H ρ1 r ρ' E rel1 hf (post.tr tr)
  · cases hf⟩
theorem hu65 {A : Around} {k : Nat} (hr : Room k A) : A.units + 65 < cLine := by have := hr.un; omega
theorem hu64 {A : Around} {k : Nat} (hr : Room k A) : A.units + 64 < cLine := by have := hr.un; omega
theorem hu0 {A : Around} {k : Nat} (hr : Room k A) : A.units < cLine := by have := hr.un; omega
theorem bt_len : bootBuiltins "len" = some (.builtin "len") := by decide +kernel
theorem bt_abs : bootBuiltins "abs" = some (.builtin "abs") := by decide +kernel
theorem bt_min : bootBuiltins "min" = some (.builtin "min") := by decide +kernel
theorem bt_max : bootBuiltins "max" = some (.builtin "max") := by decide +kernel
theorem bt_sorted : bootBuiltins "sorted" = some (.builtin "sorted") := by decide +kernel
theorem bt_int : bootBuiltins "int" = some (.type "int") := by decide +kernel
theorem bt_list : bootBuiltins "list" = some (.type "list") := by decide +kernel
theorem bt_tuple : bootBuiltins "tuple" = some (.type "tuple") := by decide +kernel
/-- a def that has no more calls left -/
theorem fn_none {P : Program} {w : World} {K : PySem.W.Frag} {base : Heap} {f : Addr} {fd : FuncData} {ps : List Str} {k n : Nat} {ios : List Nat} : FnOk P w K mg base (L2.CX P w) k f fd ps (spD mg ios n fun _ => none) := by
  have no : ∀ vs H Q E, ¬ spD mg ios n (fun _ => none) vs H Q E := fun vs H Q E h => by
    obtain ⟨_, _, _, _, _, _, _, h, _⟩ := h
    cases h
  exact ⟨fun vs H Q E h => absurd h (no vs H Q E), fun A outer s H args us vs Q E _ _ _ _ h => absurd h (no vs H Q E)⟩
end
end L3

namespace L3
open PySem L2
variable [Md] [Tb]
section
variable {X : Cx} {W : WX} {mg : Str → Option Value}
def fNoErr (f : M Fl) : M Fl := fun ρ => match f ρ with
  | some (.error _, _) => none
  | r => r
theorem snd_noErr {W' : WX} {t : TS} {f : M Fl} (h : SndS mg W' t f) : SndS mg W t (fNoErr f) := by
  intro F A O σ H ρ r ρ' E rel hf post
  unfold fNoErr at hf
  split at hf
  · cases hf
  · rename_i hne
    refine h F A O σ H ρ r ρ' E rel hf ?_
    match r, post, hne, hf with
    | .ok .next, post, _, _ => exact post
    | .ok .brk, post, _, _ => exact post
    | .ok .cont, post, _, _ => exact post
    | .ok (.ret d), post, _, _ => exact post
    | .error e, _, hne, hf => exact absurd hf (hne e ρ')
theorem ex_try2 {x : Str} {c : Value} {body suite : List Stmt} {b₀ : Stmt} {np pos pos' : Pos} {tb : WX → TS} {ts : TS} {fb fs : M Fl} (yes no : List Str) (hs : X.stack = X.env :: X.outer) (hf : X.env.frame = some X.env.locals) (hc : Names X x c) (tk : Takes X W)
    (hy : ∀ n ∈ yes, ∀ cls, X.mg n = some cls → PySem.W.exmOne X.K cls c = some true) (hn : ∀ n ∈ no, ∀ cls, X.mg n = some cls → PySem.W.exmOne X.K cls c = some false)
    (hb : ∀ (W' : WX) (pn : List (Addr × Obj)) (xe : Value → Shared → Prop), Takes (X.tr pn xe) W' → ExB (X.tr pn xe) W' body (tb W') fb)
    (hsu : ∀ (a : Addr) (pn : List (Addr × Obj)), ExB (X.suite a pn) W0 (b₀ :: suite) ts fs) :
    Ex X W (.Try body [.ExceptHandler (some (.Name x np)) none (b₀ :: suite) pos'] [] [] pos) (fun D σ H => tb (wOnly X.K c (fun _ _ _ => ts) W D) D σ H) (fTry yes no fb (fNoErr fs)) :=
  ex_try yes no hs hf hc tk hy hn (fun W' pn xe tk _ => (hb W' pn xe tk).pe) (fun W' => (hb W' [] (fun _ _ => True) (fun _ _ _ => trivial)).sd) (fun a oe cls d pn _ _ => (hsu a ((a, oe) :: pn)).pe) (snd_noErr (hsu 0 []).sd)
theorem ev_callM {mg' : Str → Option Value} {ios : List Nat} {n : Nat} {G : GD} {k : Nat} {f : Addr} {fd : FuncData} {ps : List Str} {x : Str} {p pos : Pos} {e : Expr} {es : List Expr} {t : TA} {fa : M (List R)} (tk : Takes X W) (Fo : FnOk X.prog X.w X.K X.mg X.base (L2.CX X.prog X.w) k f fd ps (spD mg' ios n G)) (hr : Room k X.A) (hg : Gl X x) (hm : X.mg x = some (.ref f)) (hk : PySem.W.keepIn X.K (.ref f) = true) (hb : Binds X.K fd ps [])
    (ha : EvF X W (e :: es) t fa) (hmg : X.mg = mg' := by rfl) (hdb : (x == ("__debug__" : Str)) = false := by decide) (he : starEach (e :: es) X.env = (false, eval e X.env) :: starEach es X.env := by rfl) (hpl : (backTo pos (starEach es X.env)).any (·.1) = false := by rfl) :
    Ev X W (.Call (.Name x p) (e :: es) [] pos) (tCallS (spD mg' ios n G) (WE W) t) (fCall ios n G fa) := by
  subst hmg
  exact ev_call tk Fo hr hg hm hk hb ha hdb he hpl
end
end L3

namespace L3
open PySem L2
variable [Md] [Tb]
section
variable {X : Cx} {W : WX} {mg : Str → Option Value}
/-- x = [..], on one line, x a local -/
theorem ex_setLc {i : Nat} (own : Bool) {y : Str} {py : Pos} {elt tg iter : Expr} {ifs : List Expr} {scope : Scope} (ow : List (Str × Nat)) {pos spos : Pos} {wi : TI} {g : TG} {tt : TT} {te : TE} {is : List Nat} {fi : M (List D)} {fg : D → DEnv → Option DEnv} {ft : M Bool} {fe : M R} (hc : X.calm = true) (hN : X.N.Nodup) (hy : X.N[i]? = some y) (hyl : X.env.scope.names.lookup y = some .local)
    (hsw : swapsWith (.ListComp elt [⟨tg, iter, ifs, 0⟩] scope pos) (some (.Name y py)) spos.line X.env = pure true) (hi : EvI X W tg iter wi fi) (ok : BlkOk X.N X.env.scope scope ow)
    (hg : ∀ (s : Shared) (H : Hp) (C : Addr) (cl : List (Str × Addr)) (fp : List Addr), ExG (X.blk s H scope (compEnvC scope cl C X.env) fp) is tg g fg)
    (ht : ∀ (s : Shared) (H : Hp) (C : Addr) (cl : List (Str × Addr)) (fp : List Addr), PTs (X.blk s H scope (compEnvC scope cl C X.env) fp) ifs tt ∧ SndT X.mg W0 tt ft)
    (he : ∀ (s : Shared) (H : Hp) (C : Addr) (cl : List (Str × Addr)) (fp : List Addr), Ev (X.blk s H scope (compEnvC scope cl C X.env) fp) W0 elt te fe)
    (his : ∀ i ∈ is, i ∈ ow.map (·.2)) (hs : ∀ x, foldedSetIterable iter X.env x = pure x := by intro _; rfl) (hst : starEach [Expr.ListComp elt [⟨tg, iter, ifs, 0⟩] scope pos] X.env = (false, eval (Expr.ListComp elt [⟨tg, iter, ifs, 0⟩] scope pos) X.env) :: starEach [] X.env := by rfl) :
    Ex X W (.Assign [.Name y py] (.ListComp elt [⟨tg, iter, ifs, 0⟩] scope pos) spos) (tAsg (tLc wi g tt te (ow.map (·.2))) (gName i)) (fPar [(i, own)] (fCons (fLc fi (ow.map (·.2)) fg ft fe) fNil)) := by
  refine ⟨ps_setLc hc hN hy hyl hsw hi.pe ok (fun s H C cl fp => (hg s H C cl fp).pe) (fun s H C cl fp => (ht s H C cl fp).1) (fun s H C cl fp => (he s H C cl fp).pe) hs, ?_⟩
  have ev : Ev X W (.ListComp elt [⟨tg, iter, ifs, 0⟩] scope pos) (tLc wi g tt te (ow.map (·.2))) (fLc fi (ow.map (·.2)) fg ft fe) := ev_lc ow hc hN hi ok hg ht he his hs
  intro F A O σ H ρ r ρ' E rel hq post
  exact par_ok (K := fun vs H1 => match vs with
    | [v] => E.nx (σ.set i (some v)) H1
    | _ => False) (evf_cons ev evf_nil hst) rel hq post fun vs H1 hl h => by
    match vs, hl, h with
    | [v], _, h => exact h
/-! ### with the written part as a letter of its own (for blocks) -/
theorem ev_mtM {K' : PySem.W.Frag} {o e : Expr} {es : List Expr} {to : TE} {t : TA} {fo : M R} {fa : M (List R)} {name : Str} {apos cpos : Pos} {T : Ty} {id : String} {r : V → List V → Hp → VK → Prop} {g : D → List D → Option R} (pa : PlainAttrs T.nm) (slot : Slot T.nm name id) (hty : typeOf (.builtin id) = pure (.type "method_descriptor")) (hm : MtR X id r) (ad : AdR r g) (ho : Ev X W o to fo) (ha : EvA X W (e :: es) t fa) (hK : X.K = K' := by rfl)
    (hbase : attributeBase o name X.env (eval o X.env) = eval o X.env := by rfl)
    (hfew : ((backTo cpos (starEach (e :: es) X.env)).all (fun x => !x.1) && (backToKw cpos (keywordEach [] X.env)).all (fun x => x.1.isSome)
      && decide ((e :: es).length + ([] : List Keyword).length + (if ([] : List Keyword).isEmpty then 0 else 1) < 30)) = true := by rfl)
    (hline : (apos.endLine == cpos.line) = true := by rfl) (hs : starEach (e :: es) X.env = (false, eval e X.env) :: starEach es X.env := by rfl) (hplain : (backTo cpos (starEach es X.env)).any (·.1) = false := by rfl) :
    Ev X W (.Call (.Attribute o name apos) (e :: es) [] cpos) (tMt K' T r to t) (fMt T g fo fa) := by
  subst hK
  exact ev_mt pa slot hty hm ad ho ha hbase hfew hline hs hplain
theorem ev_mutM {K' : PySem.W.Frag} {o e : Expr} {es : List Expr} {to : TE} {t : TA} {fo : M R} {fa : M (List R)} {name : Str} {apos cpos : Pos} {T : Ty} {id : String} {r : V → List V → Hp → VK → Prop} {g : D → List D → Option (D × D)} (pa : PlainAttrs T.nm) (slot : Slot T.nm name id) (hty : typeOf (.builtin id) = pure (.type "method_descriptor")) (hm : MtR X id r) (ad : AdM r g) (ho : Ev X W o to fo) (ha : EvA X W (e :: es) t fa) (hK : X.K = K' := by rfl)
    (hbase : attributeBase o name X.env (eval o X.env) = eval o X.env := by rfl)
    (hfew : ((backTo cpos (starEach (e :: es) X.env)).all (fun x => !x.1) && (backToKw cpos (keywordEach [] X.env)).all (fun x => x.1.isSome)
      && decide ((e :: es).length + ([] : List Keyword).length + (if ([] : List Keyword).isEmpty then 0 else 1) < 30)) = true := by rfl)
    (hline : (apos.endLine == cpos.line) = true := by rfl) (hs : starEach (e :: es) X.env = (false, eval e X.env) :: starEach es X.env := by rfl) (hplain : (backTo cpos (starEach es X.env)).any (·.1) = false := by rfl) :
    Ev X W (.Call (.Attribute o name apos) (e :: es) [] cpos) (tMt K' T r to t) (fMut T g fo fa) := by
  subst hK
  exact ev_mut pa slot hty hm ad ho ha hbase hfew hline hs hplain
theorem ev_slM {K' : PySem.W.Frag} {e : Expr} {lo hi : Option Expr} {te : TE} {tl th : TO} {f : M R} {fl fh : M (Option Int)} {p2 pos : Pos} (he : Ev X W e te f) (hl : EvO X W lo tl fl) (hh : EvO X W hi th fh) (hK : X.K = K' := by rfl) : Ev X W (.Subscript e (.Slice lo hi none p2) pos) (tSl (rSlU K') te tl th) (fSl f fl fh) := by
  subst hK
  exact ev_sl he hl hh
theorem ev_truthM {K' : PySem.W.Frag} {a : Expr} {t : TE} {f : M R} (h : Ev X W a t f) (he : ∀ whole, isTrue a X.env whole = (do let v ← whole; standAt a.pos; holding [v] (truthy v)) := by intro _; rfl) (hK : X.K = K' := by rfl) : EvT X W a (fun σ H Q => t σ H fun x H' => ∃ k, TruV K' x H' k ∧ Q k H') (fTruth f) := by
  subst hK
  exact ev_truth h he
theorem evi_listM {K' : PySem.W.Frag} {tg l : Expr} {tl : TE} {f : M R} (h : Ev X W l tl f) (hK : X.K = K' := by rfl) : EvI X W tg l (iList K' tl) (fItL f) := by
  subst hK
  exact evi_list h
theorem evi_tupM {K' : PySem.W.Frag} {tg l : Expr} {tl : TE} {f : M R} (h : Ev X W l tl f) (hK : X.K = K' := by rfl) : EvI X W tg l (iTup K' tl) (fItT f) := by
  subst hK
  exact evi_tup h
theorem exg_tupM {K' : PySem.W.Frag} {is : List Nat} {es : List Expr} {k : Nat} {t : TGs} {n : Nat} {f : List D → DEnv → Option DEnv} {pos : Pos} (h : ExGs X is es t f) (hp : PG X (.Tuple es k pos) (gTup X.K n t)) (hK : X.K = K' := by rfl) : ExG X is (.Tuple es k pos) (gTup K' n t) (fTgT n f) := by
  subst hK
  exact exg_tup h hp
end
end L3

namespace L3
open PySem L2
variable [Md] [Tb]
theorem exm_two {K : PySem.W.Frag} {S C : Addr} {b : Bool} (h1 : PySem.W.subIn K (.ref C) (.type "BaseException") = some true) (h2 : PySem.W.isClsIn K C = true) (h3 : PySem.W.typeIn K (.ref C) = some (.type "type")) (h4 : PySem.W.subIn K (.ref S) (.ref C) = some b) :
    PySem.W.exmOne K (.ref S) (.ref C) = some b := by
  have h2' : (PySem.W.clsIn K C).isSome = true := h2
  unfold PySem.W.exmOne PySem.W.kitCls
  simp only [h1, h2', h3]
  exact h4
/-! ### data that can be compared -/
def okD (n : Nat) (d : D) : Prop := (toPy d).canLay0 = true ∧ (toPy d).depth ≤ n
theorem okD.shp {n : Nat} {d : D} (h : okD n d) (hn : n ≤ 64 := by decide) : shp d = true := by
  unfold L3.shp SeqAt.shaped
  rw [h.1, Bool.true_and]
  exact decide_eq_true (Nat.le_trans h.2 hn)
theorem okD_int (i : Int) : okD 0 (.int i) := by
  unfold okD
  rw [toPy, PyData.canLay0, PyData.depth]
  exact ⟨rfl, Nat.le_refl 0⟩
theorem okD_bl (i : Bool) : okD 0 (.bl i) := by
  unfold okD
  rw [toPy, PyData.canLay0, PyData.depth]
  exact ⟨rfl, Nat.le_refl 0⟩
theorem okD_non : okD 0 .non := by
  unfold okD
  rw [toPy, PyData.canLay0, PyData.depth]
  exact ⟨rfl, Nat.le_refl 0⟩
theorem okD.mono {m n : Nat} {d : D} (h : okD m d) (hn : m ≤ n := by decide) : okD n d := ⟨h.1, Nat.le_trans h.2 hn⟩
theorem okD_all {n : Nat} : ∀ {ds : List D}, (∀ d ∈ ds, okD n d) → PyData.canLayAll0 (toPys ds) = true ∧ PyData.depthAll (toPys ds) ≤ n
  | [], _ => by rw [toPys, PyData.canLayAll0, PyData.depthAll]; exact ⟨rfl, Nat.zero_le _⟩
  | d :: ds, h => by
    obtain ⟨h1, h2⟩ := okD_all (ds := ds) fun x hx => h x (List.mem_cons_of_mem _ hx)
    obtain ⟨h3, h4⟩ := h d List.mem_cons_self
    rw [toPys, PyData.canLayAll0, PyData.depthAll, h1, h3]
    exact ⟨rfl, Nat.max_le.mpr ⟨h4, h2⟩⟩
theorem okD_lst {n : Nat} {ds : List D} (h : ∀ d ∈ ds, okD n d) : okD (n + 1) (.lst ds) := by
  obtain ⟨h1, h2⟩ := okD_all h
  unfold okD
  rw [toPy, PyData.canLay0, PyData.depth]
  exact ⟨h1, Nat.succ_le_succ h2⟩
theorem okD_tup {n : Nat} {ds : List D} (h : ∀ d ∈ ds, okD n d) : okD (n + 1) (.tup ds) := by
  obtain ⟨h1, h2⟩ := okD_all h
  unfold okD
  rw [toPy, PyData.canLay0, PyData.depth]
  exact ⟨h1, Nat.succ_le_succ h2⟩
theorem okD_ints (ns : List Int) : okD 1 (.lst (ns.map .int)) := okD_lst fun d hd => by
  obtain ⟨i, _, rfl⟩ := List.mem_map.mp hd
  exact okD_int i
theorem okD_intsT (ns : List Int) : okD 1 (.tup (ns.map .int)) := okD_tup fun d hd => by
  obtain ⟨i, _, rfl⟩ := List.mem_map.mp hd
  exact okD_int i
/-! ### the law's dice -/
section
variable {K : PySem.W.Frag} {W : WX}
theorem dice_read {D : Ends} {c : Int} {σ : St} {H : Hp} (h0 : σ[0]? = some (some (.int c))) (q : ∀ p x y z, H p = none → D.rt (.ref p) (upd H p (.lst [.int x, .int y, .int z]))) :
    tSeq (tIfS (tTest (tChain (rI0 fun i j => .bl (decide (i < j))) (rI0 fun i j => .bl (decide (i < j))) (tOp (rI0 fun i j => .int (i - j)) (tC (.int 0)) (tC (.int 10))) (tVar 0) (tC (.int 10))))
      (tRet (tLst (tCons (tCB (fun xs H Q => ∃ i, xs = [.int i] ∧ Q (.int (if i < 0 then -i else i)) H) (tCons (tVar 0) tNil)) (tCons (tC (.int 0)) (tCons (tC (.int 2)) tNil))))) tNext)
      (tRet (tLst (tCons (tVar 0) (tCons (tOp (rI0 fun i j => .int (i + j)) (tC (.int 1)) (tOp (rI (fun _ j => j ≠ 0) fun i j => .int (i.fmod j)) (tCB (fun xs H Q => (∃ i, xs = [.int i] ∧ Q (.int i) H) ∨ ∃ k : Bool, xs = [.bl k] ∧ Q (.int (if k = true then 1 else 0)) H) (tCons (tVar 0) tNil)) (tC (.int 1009))))
        (tCons (tCB (fun xs H Q => (∃ i, xs = [.int i] ∧ Q (.int i) H) ∨ ∃ k : Bool, xs = [.bl k] ∧ Q (.int (if k = true then 1 else 0)) H) (tCons (tOp (rI0 fun i j => .bl (decide (j ≤ i))) (tVar 0) (tOp (rI CPow fun i j => .int (i ^ j.toNat)) (tC (.int 10)) (tC (.int 18)))) tNil)) tNil))))) D σ H := by
  have r2 : tRet (tLst (tCons (tVar 0) (tCons (tOp (rI0 fun i j => .int (i + j)) (tC (.int 1)) (tOp (rI (fun _ j => j ≠ 0) fun i j => .int (i.fmod j)) (tCB (fun xs H Q => (∃ i, xs = [.int i] ∧ Q (.int i) H) ∨ ∃ k : Bool, xs = [.bl k] ∧ Q (.int (if k = true then 1 else 0)) H) (tCons (tVar 0) tNil)) (tC (.int 1009))))
        (tCons (tCB (fun xs H Q => (∃ i, xs = [.int i] ∧ Q (.int i) H) ∨ ∃ k : Bool, xs = [.bl k] ∧ Q (.int (if k = true then 1 else 0)) H) (tCons (tOp (rI0 fun i j => .bl (decide (j ≤ i))) (tVar 0) (tOp (rI CPow fun i j => .int (i ^ j.toNat)) (tC (.int 10)) (tC (.int 18)))) tNil)) tNil)))) D σ H :=
    ⟨_, h0, _, h0, .inl ⟨c, rfl, c, 1009, rfl, rfl, (by show (1009 : Int) ≠ 0; decide), 1, _, rfl, rfl, _, h0, 10, 18, rfl, rfl, ⟨by decide, by decide, by decide⟩, _, _, rfl, rfl, .inr ⟨_, rfl, by show 3 ≤ sizeLine; decide, fun p hp => q p _ _ _ hp⟩⟩⟩
  refine ⟨0, 10, rfl, rfl, _, h0, _, _, rfl, rfl, _, rfl, ?_⟩
  refine ite2 (fun _ => ?_) (fun _ => ?_)
  · refine ⟨c, 10, rfl, rfl, _, rfl, ite2 (fun _ => ?_) (fun _ => r2)⟩
    exact ⟨_, h0, c, rfl, by show 3 ≤ sizeLine; decide, fun p hp => q p _ _ _ hp⟩
  · exact ⟨_, rfl, iteF r2⟩
theorem rounds_read {D : Ends} {σ : St} {H : Hp} {a : Addr} {m : Int} {ns : List Int} {E : St → XK} (hl : σ.length = 4) (h0 : σ[0]? = some (some (.ref a))) (h1 : σ[1]? = some (some (.int m))) (hS : SqL K H a (ns.map V.int)) (h63 : ns.length ≤ 63)
    (q : ∀ (L : Addr) (ps : List Addr) (H' : Hp), Same H H' → H L = none → (∀ p ∈ ps, H p = none) → ps.Nodup → L ∉ ps → H' L = some (.lst (ps.map V.ref)) → (∀ p ∈ ps, ∃ x y z : Int, H' p = some (.lst [.int x, .int y, .int z])) → D.rt (.ref L) H') :
    tSeq (tAsg (tSl (rSlL K) (tVar 0) tNoPart (tPart (tVar 1))) (gName 2)) (tSeq (tIfS (tTest (tOp (rEqD K) (tVar 2) (tLst tNil))) (tAsg (tLst (tCons (tC (.int 0)) tNil)) (gName 2)) tNext)
      (tRet (tLc (iList K (tVar 2)) (gName 3) tYes (tCallS spDice E (tCons (tVar 3) tNil)) [3]))) D σ H := by
  refine ⟨_, h0, _, h1, m, rfl, a, _, rfl, hS, fun p0 np0 => ?_⟩
  have cut : ∃ cs : List Int, cutV (ns.map V.int) none (some m) = cs.map V.int ∧ cs.length ≤ 63 := by
    refine ⟨(ns.drop (HT.sIx (ns.map V.int).length 0 none)).take (HT.sIx (ns.map V.int).length (ns.map V.int).length (some m) - HT.sIx (ns.map V.int).length 0 none), ?_, ?_⟩
    · unfold cutV
      rw [List.map_take, List.map_drop]
    · rw [List.length_take, List.length_drop]
      omega
  obtain ⟨cs, ecs, lcs⟩ := cut
  rw [ecs]
  have s0 := same_new np0 (.lst (cs.map V.int))
  have lσ : (σ.set 2 (some (.ref p0))).length = 4 := by rw [List.length_set]; exact hl
  have g2 : ∀ v : V, (σ.set 2 (some v))[2]? = some (some v) := fun v => List.getElem?_set_self (by omega)
  -- what is left to do for any list of cells
  have fin : ∀ (H1 : Hp) (σ1 : St) (p1 : Addr) (cs1 : List Int), Same H H1 → σ1.length = 4 → σ1[2]? = some (some (.ref p1)) → H1 p1 = some (.lst (cs1.map V.int)) → H p1 = none → cs1.length ≤ 63 →
      tRet (tLc (iList K (tVar 2)) (gName 3) tYes (tCallS spDice E (tCons (tVar 3) tNil)) [3]) D σ1 H1 := by
    intro H1 σ1 p1 cs1 sm l1 e2 ep1 np1 hcs1
    refine ⟨_, e2, p1, rfl, ⟨_, SqL.of ep1⟩, fun L nL => ?_⟩
    have neL : p1 ≠ L := ne_of_none ep1 nL
    have gone : ∀ p, H1 p = none → H p = none := fun p h => by
      cases e : H p with
      | none => rfl
      | some o => rw [sm p o e] at h; cases h
    refine lc_list (xs := cs1.map V.int) (fun i Hi => ∃ ps : List Addr, ps.length = i ∧ ps.Nodup ∧ L ∉ ps ∧ (∀ p ∈ ps, H1 p = none) ∧ (∀ p ∈ ps, ∃ x y z : Int, Hi p = some (.lst [.int x, .int y, .int z])) ∧ Hi L = some (.lst (ps.map V.ref)) ∧ ∀ b u, H1 b = some u → Hi b = some u) ?_ ?_ ?_ ?_
    · exact ⟨[], rfl, List.nodup_nil, by simp, by simp, by simp, upd_same, same_new nL _⟩
    · rintro i Hi _ ⟨ps, _, _, _, _, _, _, hk⟩
      exact SqL.of (hk _ _ ep1)
    · rintro i x Hi hx ⟨ps, hpl, nd, hLp, hn, hd, hL, hk⟩
      rw [List.getElem?_map] at hx
      obtain ⟨c, ec, rfl⟩ := Option.map_eq_some_iff.mp hx
      have hlt : i < cs1.length := (List.getElem?_eq_some_iff.mp ec).1
      have l3 : (wipe σ1 [3]).length = 4 := by rw [wipe_length]; exact l1
      refine ⟨?_, ?_⟩
      · show wipe ((wipe σ1 [3]).set 3 _) [3] = wipe σ1 [3]
        show ((σ1.set 3 none).set 3 _).set 3 none = σ1.set 3 none
        rw [List.set_set, List.set_set]
      unfold tYes
      dsimp only
      rw [if_pos rfl]
      refine ⟨_, List.getElem?_set_self (by omega), c, rfl, fun p x y z np => ?_⟩
      have pL : L ≠ p := ne_of_none hL np
      have pnew : p ∉ ps := fun hm => by
        obtain ⟨x, y, z, e⟩ := hd p hm
        rw [np] at e; cases e
      refine ⟨ps.map V.ref, by rw [upd_ne pL]; exact hL, by rw [List.length_map, hpl]; exact Nat.lt_of_lt_of_le (Nat.lt_of_lt_of_le hlt hcs1) (by decide), ps ++ [p], by simp [hpl], ?_, ?_, ?_, ?_, ?_, ?_⟩
      · refine List.nodup_append.mpr ⟨nd, by simp, fun a ha b hb hab => ?_⟩
        rw [List.mem_singleton.mp hb] at hab
        rw [hab] at ha
        exact pnew ha
      · simp only [List.mem_append, List.mem_singleton, not_or]
        exact ⟨hLp, pL⟩
      · intro b hb
        rcases List.mem_append.mp hb with hb | hb
        · exact hn b hb
        · rw [List.mem_singleton.mp hb]
          cases e : H1 p with
          | none => rfl
          | some o => rw [hk p o e] at np; cases np
      · intro b hb
        rcases List.mem_append.mp hb with hb | hb
        · obtain ⟨x', y', z', e⟩ := hd b hb
          refine ⟨x', y', z', ?_⟩
          rw [upd_ne (fun h => hLp (by rw [← h]; exact hb)), upd_ne (fun h => pnew (by rw [← h]; exact hb))]
          exact e
        · rw [List.mem_singleton.mp hb]
          exact ⟨x, y, z, by rw [upd_ne pL.symm, upd_same]⟩
      · rw [upd_same, List.map_append]; rfl
      · intro b u e
        rw [upd_ne (ne_of_none e nL), upd_ne (ne_of_none (hk b u e) np)]
        exact hk b u e
    · rintro Hf ⟨ps, hpl, nd, hLp, hn, hd, hL, hk⟩
      exact q L ps Hf (fun b u e => hk b u (sm b u e)) (gone L nL) (fun p hp => gone p (hn p hp)) nd hLp hL hd
  refine ⟨_, g2 _, by show 0 ≤ sizeLine; decide, fun l nl => ?_⟩
  have s1 := same_new nl (.lst [])
  have ep0 : upd (upd H p0 (.lst (cs.map V.int))) l (.lst []) p0 = some (.lst (cs.map V.int)) := s1 _ _ upd_same
  have rp0 : Rb (fun _ => False) (upd (upd H p0 (.lst (cs.map V.int))) l (.lst [])) (.ref p0) (.lst (cs.map .int)) := .inl (.ob ep0 (fun h => h) (.lst (rpAll_ints _ _ cs)))
  have rl : Rb (fun _ => False) (upd (upd H p0 (.lst (cs.map V.int))) l (.lst [])) (.ref l) (.lst []) := .inl (.ob upd_same (fun h => h) (.lst .nil))
  have ok1 := okD_ints cs
  have ok2 : okD 1 (.lst []) := okD_ints []
  refine ⟨_, _, rp0.dp ok1.1, rl.dp ok2.1, ok1.shp, ok2.shp, _, rfl, ?_⟩
  refine ite2 (fun _ => ?_) (fun _ => ?_)
  · refine ⟨by show 1 ≤ sizeLine; decide, fun p1 np1 => ?_⟩
    refine fin _ _ p1 [0] ((s0.trans s1).trans (same_new np1 _)) (by rw [List.length_set, List.length_set]; exact hl) (List.getElem?_set_self (by omega)) upd_same ?_ (by decide)
    cases e : H p1 with
    | none => rfl
    | some o => rw [(s0.trans s1) p1 o e] at np1; cases np1
  · exact fin _ _ p0 cs (s0.trans s1) lσ (g2 _) ep0 np0 lcs
end
end L3

namespace L3
open PySem L2
variable [Md] [Tb]
/-! ### running denotations: each combinator at an environment -/
abbrev Ou (α : Type) := Option (Except Exc α × DEnv)
def bT {α β : Type} (o : Ou α) (g : α → M β) : Ou β := match o with
  | some (.ok a, ρ1) => g a ρ1
  | some (.error e, ρ1) => some (.error e, ρ1)
  | none => none
theorem bT_ok {α β : Type} (a : α) (ρ : DEnv) (g : α → M β) : bT (some (.ok a, ρ)) g = g a ρ := (rfl)
theorem bT_err {α β : Type} (e : Exc) (ρ : DEnv) (g : α → M β) : bT (some (.error e, ρ)) g = some (.error e, ρ) := (rfl)
theorem bT_none {α β : Type} (g : α → M β) : bT none g = none := (rfl)
theorem bind_ap {α β : Type} (f : M α) (g : α → M β) (ρ : DEnv) : M.bind f g ρ = bT (f ρ) g := (rfl)
theorem pure_ap {α : Type} (a : α) (ρ : DEnv) : M.pure a ρ = some (.ok a, ρ) := (rfl)
def ofT {α : Type} (o : Option α) (ρ : DEnv) : Ou α := match o with
  | some a => some (.ok a, ρ)
  | none => none
theorem of_ap {α : Type} (o : Option α) (ρ : DEnv) : M.of o ρ = ofT o ρ := (rfl)
theorem ofT_some {α : Type} (a : α) (ρ : DEnv) : ofT (some a) ρ = some (.ok a, ρ) := (rfl)
theorem ofT_none {α : Type} (ρ : DEnv) : ofT (none : Option α) ρ = none := (rfl)
/-- places of an environment -/
def at0 (ρ : DEnv) (i : Nat) : Option SV := match ρ, i with
  | [], _ => none
  | o :: _, 0 => o
  | _ :: r, i + 1 => at0 r i
theorem at0_zero (o : Option SV) (r : DEnv) : at0 (o :: r) 0 = o := (rfl)
theorem at0_succ (o : Option SV) (r : DEnv) (i : Nat) : at0 (o :: r) (i + 1) = at0 r i := (rfl)
theorem at0_eq : ∀ (ρ : DEnv) (i : Nat), at0 ρ i = (ρ[i]?).join
  | [], i => by simp [at0]
  | o :: r, 0 => by simp [at0]
  | o :: r, i + 1 => by rw [at0_succ, at0_eq r i]; simp
def vT (i : Nat) (ρ : DEnv) (o : Option SV) : Ou R := match o with
  | some (.sh d) => some (.ok (.val d), ρ)
  | some (.ow _) => some (.ok (.slot i), ρ)
  | some (.io _) => some (.ok (.slot i), ρ)
  | none => none
theorem var_ap (i : Nat) (ρ : DEnv) : fVar i ρ = vT i ρ (at0 ρ i) := by
  unfold fVar vT
  rw [at0_eq]
  cases h : ρ[i]? with
  | none => rfl
  | some o => cases o with
    | none => rfl
    | some sv => cases sv <;> rfl
theorem vT_sh (i : Nat) (ρ : DEnv) (d : D) : vT i ρ (some (.sh d)) = some (.ok (.val d), ρ) := (rfl)
theorem vT_ow (i : Nat) (ρ : DEnv) (d : D) : vT i ρ (some (.ow d)) = some (.ok (.slot i), ρ) := (rfl)
theorem vT_io (i : Nat) (ρ : DEnv) (d : D) : vT i ρ (some (.io d)) = some (.ok (.slot i), ρ) := (rfl)
def cT (o : Option SV) : Option D := match o with
  | some (.ow d) => some d
  | some (.io d) => some d
  | _ => none
theorem cont_ap (ρ : DEnv) (i : Nat) : cont ρ i = cT (at0 ρ i) := by
  unfold cont cT
  rw [at0_eq]
  cases h : ρ[i]? with
  | none => rfl
  | some o => cases o with
    | none => rfl
    | some sv => cases sv <;> rfl
theorem cT_ow (d : D) : cT (some (.ow d)) = some d := (rfl)
theorem cT_io (d : D) : cT (some (.io d)) = some d := (rfl)
theorem deref_val (ρ : DEnv) (d : D) : deref ρ (.val d) = some d := (rfl)
theorem deref_fresh (ρ : DEnv) (d : D) : deref ρ (.fresh d) = some d := (rfl)
theorem deref_slot (ρ : DEnv) (i : Nat) : deref ρ (.slot i) = cont ρ i := (rfl)
theorem stab_val (d : D) : stab (.val d) = some d := (rfl)
theorem stab_fresh (d : D) : stab (.fresh d) = some d := (rfl)
def set0 (ρ : DEnv) (i : Nat) (x : Option SV) : DEnv := match ρ, i with
  | [], _ => []
  | _ :: r, 0 => x :: r
  | o :: r, i + 1 => o :: set0 r i x
theorem set_ap : ∀ (ρ : DEnv) (i : Nat) (x : Option SV), ρ.set i x = set0 ρ i x
  | [], _, _ => by simp [set0]
  | _ :: r, 0, _ => rfl
  | o :: r, i + 1, x => by rw [List.set_cons_succ, set_ap r i x]; rfl
theorem set0_zero (o x : Option SV) (r : DEnv) : set0 (o :: r) 0 x = x :: r := (rfl)
theorem set0_succ (o x : Option SV) (r : DEnv) (i : Nat) : set0 (o :: r) (i + 1) x = o :: set0 r i x := (rfl)
def scT (ρ : DEnv) (i : Nat) (d : D) (o : Option SV) : DEnv := match o with
  | some (.ow _) => set0 ρ i (some (.ow d))
  | some (.io _) => set0 ρ i (some (.io d))
  | _ => ρ
theorem setC_ap (ρ : DEnv) (i : Nat) (d : D) : setC ρ i d = scT ρ i d (at0 ρ i) := by
  unfold setC scT
  rw [at0_eq]
  cases h : ρ[i]? with
  | none => rfl
  | some o => cases o with
    | none => rfl
    | some sv => cases sv <;> first | rfl | exact set_ap _ _ _
theorem scT_ow (ρ : DEnv) (i : Nat) (d d' : D) : scT ρ i d (some (.ow d')) = set0 ρ i (some (.ow d)) := (rfl)
theorem scT_io (ρ : DEnv) (i : Nat) (d d' : D) : scT ρ i d (some (.io d')) = set0 ρ i (some (.io d)) := (rfl)
theorem fC_ap (d : D) (ρ : DEnv) : fC d ρ = some (.ok (.val d), ρ) := (rfl)
/-- two -/
def binT (g : D → D → Option R) (o1 o2 : Option D) (ρ : DEnv) : Ou R := match o1, o2 with
  | some dx, some dy => ofT (g dx dy) ρ
  | _, _ => none
theorem binT_some (g : D → D → Option R) (x y : D) (ρ : DEnv) : binT g (some x) (some y) ρ = ofT (g x y) ρ := (rfl)
def binK2 (g : D → D → Option R) (x : R) : R → M R := fun y ρ => binT g (deref ρ x) (deref ρ y) ρ
theorem binK2_ap (g : D → D → Option R) (x : R) (y : R) (ρ : DEnv) : binK2 g  x  y ρ = binT g (deref ρ x) (deref ρ y) ρ := (rfl)
def binK1 (g : D → D → Option R) (fb : M R) : R → M R := fun x ρ => bT (fb ρ) (binK2 g x)
theorem binK1_ap (g : D → D → Option R) (fb : M R) (x : R) (ρ : DEnv) : binK1 g  fb  x ρ = bT (fb ρ) (binK2 g x) := (rfl)
theorem bin_ap (g : D → D → Option R) (fa fb : M R) (ρ : DEnv) : fBin g fa fb ρ = bT (fa ρ) (binK1 g fb) := (rfl)
def testT (ρ : DEnv) (o : Option D) : Ou Bool := match o with
  | some (.bl b) => some (.ok b, ρ)
  | _ => none
theorem testT_bl (ρ : DEnv) (b : Bool) : testT ρ (some (.bl b)) = some (.ok b, ρ) := (rfl)
def testK  : R → M Bool := fun r ρ => testT ρ (deref ρ r)
theorem testK_ap  (r : R) (ρ : DEnv) : testK  r ρ = testT ρ (deref ρ r) := (rfl)
theorem test_ap (f : M R) (ρ : DEnv) : fTest f ρ = bT (f ρ) testK := (rfl)
def truT (ρ : DEnv) (o : Option D) : Ou Bool := match o with
  | some d => ofT (truD d) ρ
  | none => none
theorem truT_some (ρ : DEnv) (d : D) : truT ρ (some d) = ofT (truD d) ρ := (rfl)
def truK  : R → M Bool := fun r ρ => truT ρ (deref ρ r)
theorem truK_ap  (r : R) (ρ : DEnv) : truK  r ρ = truT ρ (deref ρ r) := (rfl)
theorem truth_ap (f : M R) (ρ : DEnv) : fTruth f ρ = bT (f ρ) truK := by
  show M.bind f _ ρ = _
  rw [bind_ap]
  refine congrArg (bT (f ρ)) ?_
  funext r ρ1
  show _ = truT ρ1 (deref ρ1 r)
  cases h : deref ρ1 r with
  | none => simp only [h]; rfl
  | some d => simp only [h]; rfl
def andK (g : M Bool) : Bool → M Bool := fun b => if b = true then g else M.pure false
theorem andK_t (g : M Bool) (ρ : DEnv) : andK g true ρ = g ρ := (rfl)
theorem andK_f (g : M Bool) (ρ : DEnv) : andK g false ρ = some (.ok false, ρ) := (rfl)
theorem and_ap (f g : M Bool) (ρ : DEnv) : fAnd f g ρ = bT (f ρ) (andK g) := (rfl)
def orK (g : M Bool) : Bool → M Bool := fun b => if b = true then M.pure true else g
theorem orK_f (g : M Bool) (ρ : DEnv) : orK g false ρ = g ρ := (rfl)
theorem orK_t (g : M Bool) (ρ : DEnv) : orK g true ρ = some (.ok true, ρ) := (rfl)
theorem or_ap (f g : M Bool) (ρ : DEnv) : fOr f g ρ = bT (f ρ) (orK g) := (rfl)
def notK : Bool → M Bool := fun b ρ => some (.ok (!b), ρ)
theorem notK_ap (b : Bool) (ρ : DEnv) : notK b ρ = some (.ok (!b), ρ) := (rfl)
theorem not_ap (f : M Bool) (ρ : DEnv) : fNot f ρ = bT (f ρ) notK := (rfl)
def ifK {α : Type} (f g : M α) : Bool → M α := fun b => if b = true then f else g
theorem ifK_t {α : Type} (f g : M α) (ρ : DEnv) : ifK f g true ρ = f ρ := (rfl)
theorem ifK_f {α : Type} (f g : M α) (ρ : DEnv) : ifK f g false ρ = g ρ := (rfl)
theorem if_ap (c : M Bool) (f g : M R) (ρ : DEnv) : fIf c f g ρ = bT (c ρ) (ifK f g) := (rfl)
theorem ifS_ap (c : M Bool) (f g : M Fl) (ρ : DEnv) : fIfS c f g ρ = bT (c ρ) (ifK f g) := (rfl)
def andVT (g : M R) (ρ : DEnv) (o : Option D) : Ou R := match o with
  | some (.bl true) => g ρ
  | some (.bl false) => some (.ok (.val (.bl false)), ρ)
  | _ => none
theorem andVT_t (g : M R) (ρ : DEnv) : andVT g ρ (some (.bl true)) = g ρ := (rfl)
theorem andVT_f (g : M R) (ρ : DEnv) : andVT g ρ (some (.bl false)) = some (.ok (.val (.bl false)), ρ) := (rfl)
def andVK (g : M R) : R → M R := fun r ρ => andVT g ρ (deref ρ r)
theorem andVK_ap (g : M R) (r : R) (ρ : DEnv) : andVK g  r ρ = andVT g ρ (deref ρ r) := (rfl)
theorem andV_ap (f g : M R) (ρ : DEnv) : fAndV f g ρ = bT (f ρ) (andVK g) := (rfl)
def orVT (g : M R) (ρ : DEnv) (o : Option D) : Ou R := match o with
  | some (.bl false) => g ρ
  | some (.bl true) => some (.ok (.val (.bl true)), ρ)
  | _ => none
theorem orVT_f (g : M R) (ρ : DEnv) : orVT g ρ (some (.bl false)) = g ρ := (rfl)
theorem orVT_t (g : M R) (ρ : DEnv) : orVT g ρ (some (.bl true)) = some (.ok (.val (.bl true)), ρ) := (rfl)
def orVK (g : M R) : R → M R := fun r ρ => orVT g ρ (deref ρ r)
theorem orVK_ap (g : M R) (r : R) (ρ : DEnv) : orVK g  r ρ = orVT g ρ (deref ρ r) := (rfl)
theorem orV_ap (f g : M R) (ρ : DEnv) : fOrV f g ρ = bT (f ρ) (orVK g) := (rfl)
def notVT (ρ : DEnv) (o : Option D) : Ou R := match o with
  | some (.bl b) => some (.ok (.val (.bl (!b))), ρ)
  | _ => none
theorem notVT_bl (ρ : DEnv) (b : Bool) : notVT ρ (some (.bl b)) = some (.ok (.val (.bl (!b))), ρ) := (rfl)
def notVK  : R → M R := fun r ρ => notVT ρ (deref ρ r)
theorem notVK_ap  (r : R) (ρ : DEnv) : notVK  r ρ = notVT ρ (deref ρ r) := (rfl)
theorem notV_ap (f : M R) (ρ : DEnv) : fNotV f ρ = bT (f ρ) notVK := (rfl)
/-- chains -/
def chK3 (g' : D → D → Option R) (y : R) : R → M R := fun z ρ => binT g' (deref ρ y) (deref ρ z) ρ
theorem chK3_ap (g' : D → D → Option R) (y z : R) (ρ : DEnv) : chK3 g' y z ρ = binT g' (deref ρ y) (deref ρ z) ρ := (rfl)
def chT (g' : D → D → Option R) (fc : M R) (y : R) (ρ : DEnv) (o : Option R) : Ou R := match o with
  | some (.val (.bl true)) => bT (fc ρ) (chK3 g' y)
  | some (.val (.bl false)) => some (.ok (.val (.bl false)), ρ)
  | _ => none
def chT0 (g g' : D → D → Option R) (fc : M R) (y : R) (ρ : DEnv) (o1 o2 : Option D) : Ou R := match o1, o2 with
  | some dx, some dy => chT g' fc y ρ (g dx dy)
  | _, _ => none
theorem chT0_some (g g' : D → D → Option R) (fc : M R) (y : R) (ρ : DEnv) (a b : D) : chT0 g g' fc y ρ (some a) (some b) = chT g' fc y ρ (g a b) := (rfl)
theorem chT_t (g' : D → D → Option R) (fc : M R) (y : R) (ρ : DEnv) : chT g' fc y ρ (some (.val (.bl true))) = bT (fc ρ) (chK3 g' y) := (rfl)
theorem chT_f (g' : D → D → Option R) (fc : M R) (y : R) (ρ : DEnv) : chT g' fc y ρ (some (.val (.bl false))) = some (.ok (.val (.bl false)), ρ) := (rfl)
def chK2 (g g' : D → D → Option R) (fc : M R) (x : R) : R → M R := fun y ρ => chT0 g g' fc y ρ (deref ρ x) (deref ρ y)
theorem chK2_ap (g g' : D → D → Option R) (fc : M R) (x y : R) (ρ : DEnv) : chK2 g g' fc x y ρ = chT0 g g' fc y ρ (deref ρ x) (deref ρ y) := (rfl)
def chK1 (g g' : D → D → Option R) (fb fc : M R) : R → M R := fun x ρ => bT (fb ρ) (chK2 g g' fc x)
theorem chK1_ap (g g' : D → D → Option R) (fb fc : M R) (x : R) (ρ : DEnv) : chK1 g g' fb fc x ρ = bT (fb ρ) (chK2 g g' fc x) := (rfl)
theorem chain_ap (g g' : D → D → Option R) (fa fb fc : M R) (ρ : DEnv) : fChain g g' fa fb fc ρ = bT (fa ρ) (chK1 g g' fb fc) := by
  show M.bind fa _ ρ = bT (fa ρ) (chK1 g g' fb fc)
  rw [bind_ap]
  refine congrArg (bT (fa ρ)) ?_
  funext a ρ1
  show M.bind fb _ ρ1 = bT (fb ρ1) (chK2 g g' fc a)
  rw [bind_ap]
  refine congrArg (bT (fb ρ1)) ?_
  funext y ρ2
  show _ = chT0 g g' fc y ρ2 (deref ρ2 a) (deref ρ2 y)
  unfold chT0
  cases deref ρ2 a with
  | none => rfl
  | some dx => cases deref ρ2 y with
    | none => rfl
    | some dy =>
      simp only [chT]
      cases g dx dy with
      | none => rfl
      | some z => cases z with
        | slot i => rfl
        | fresh d => rfl
        | val d => cases d <;> first | rfl | (rename_i b; cases b <;> rfl)

/-- lists of things -/
theorem nil_ap (ρ : DEnv) : fNil ρ = some (.ok [], ρ) := (rfl)
def consK2 (r : R) : List R → M (List R) := fun rs ρ => some (.ok (r :: rs), ρ)
theorem consK2_ap (r : R) (rs : List R) (ρ : DEnv) : consK2 r  rs ρ = some (.ok (r :: rs), ρ) := (rfl)
def consK1 (g : M (List R)) : R → M (List R) := fun r ρ => bT (g ρ) (consK2 r)
theorem consK1_ap (g : M (List R)) (r : R) (ρ : DEnv) : consK1 g  r ρ = bT (g ρ) (consK2 r) := (rfl)
theorem cons_ap (f : M R) (g : M (List R)) (ρ : DEnv) : fCons f g ρ = bT (f ρ) (consK1 g) := (rfl)
def cons2 (o : Option D) (p : Option (List D)) : Option (List D) := match o, p with
  | some d, some ds => some (d :: ds)
  | _, _ => none
theorem cons2_some (d : D) (ds : List D) : cons2 (some d) (some ds) = some (d :: ds) := (rfl)
theorem stabs_nil : stabs [] = some [] := (rfl)
theorem stabs_cons (r : R) (rs : List R) : stabs (r :: rs) = cons2 (stab r) (stabs rs) := (rfl)
theorem derefs_nil (ρ : DEnv) : derefs ρ [] = some [] := (rfl)
theorem derefs_cons (ρ : DEnv) (r : R) (rs : List R) : derefs ρ (r :: rs) = cons2 (deref ρ r) (derefs ρ rs) := (rfl)
def tupT (ρ : DEnv) (o : Option (List D)) : Ou R := match o with
  | some ds => if ds.length ≤ sizeLine then some (.ok (.val (.tup ds)), ρ) else none
  | none => none
def lstT (ρ : DEnv) (o : Option (List D)) : Ou R := match o with
  | some ds => if ds.length ≤ sizeLine then some (.ok (.fresh (.lst ds)), ρ) else none
  | none => none
def tupK  : List R → M R := fun rs ρ => tupT ρ (stabs rs)
theorem tupK_ap  (rs : List R) (ρ : DEnv) : tupK  rs ρ = tupT ρ (stabs rs) := (rfl)
theorem tup_ap (f : M (List R)) (ρ : DEnv) : fTup f ρ = bT (f ρ) tupK := (rfl)
def lstK  : List R → M R := fun rs ρ => lstT ρ (stabs rs)
theorem lstK_ap  (rs : List R) (ρ : DEnv) : lstK  rs ρ = lstT ρ (stabs rs) := (rfl)
theorem lst_ap (f : M (List R)) (ρ : DEnv) : fLst f ρ = bT (f ρ) lstK := (rfl)
theorem szl (n : Nat) (h : n ≤ 1000 := by simp) : n ≤ sizeLine := Nat.le_trans h (by decide)
theorem tupT_0 (ρ : DEnv) : tupT ρ (some []) = some (.ok (.val (.tup [])), ρ) := by unfold tupT; exact if_pos (szl 0)
theorem tupT_1 (ρ : DEnv) (a : D) : tupT ρ (some [a]) = some (.ok (.val (.tup [a])), ρ) := by unfold tupT; exact if_pos (szl 1)
theorem tupT_2 (ρ : DEnv) (a b : D) : tupT ρ (some [a, b]) = some (.ok (.val (.tup [a, b])), ρ) := by unfold tupT; exact if_pos (szl 2)
theorem tupT_3 (ρ : DEnv) (a b c : D) : tupT ρ (some [a, b, c]) = some (.ok (.val (.tup [a, b, c])), ρ) := by unfold tupT; exact if_pos (szl 3)
theorem lstT_0 (ρ : DEnv) : lstT ρ (some []) = some (.ok (.fresh (.lst [])), ρ) := by unfold lstT; exact if_pos (szl 0)
theorem lstT_1 (ρ : DEnv) (a : D) : lstT ρ (some [a]) = some (.ok (.fresh (.lst [a])), ρ) := by unfold lstT; exact if_pos (szl 1)
theorem lstT_2 (ρ : DEnv) (a b : D) : lstT ρ (some [a, b]) = some (.ok (.fresh (.lst [a, b])), ρ) := by unfold lstT; exact if_pos (szl 2)
theorem lstT_3 (ρ : DEnv) (a b c : D) : lstT ρ (some [a, b, c]) = some (.ok (.fresh (.lst [a, b, c])), ρ) := by unfold lstT; exact if_pos (szl 3)
def cbT (g : List D → Option R) (ρ : DEnv) (o : Option (List D)) : Ou R := match o with
  | some ds => ofT (g ds) ρ
  | none => none
theorem cbT_some (g : List D → Option R) (ρ : DEnv) (ds : List D) : cbT g ρ (some ds) = ofT (g ds) ρ := (rfl)
def cbK (g : List D → Option R) : List R → M R := fun rs ρ => cbT g ρ (derefs ρ rs)
theorem cbK_ap (g : List D → Option R) (rs : List R) (ρ : DEnv) : cbK g  rs ρ = cbT g ρ (derefs ρ rs) := (rfl)
theorem cb_ap (g : List D → Option R) (f : M (List R)) (ρ : DEnv) : fCB g f ρ = bT (f ρ) (cbK g) := (rfl)
/-- methods -/
def mtT2 (g : D → List D → Option R) (ρ : DEnv) (o : Option D) (p : Option (List D)) : Ou R := match o, p with
  | some d, some ds => ofT (g d ds) ρ
  | _, _ => none
theorem mtT2_some (g : D → List D → Option R) (ρ : DEnv) (d : D) (ds : List D) : mtT2 g ρ (some d) (some ds) = ofT (g d ds) ρ := (rfl)
def mtK2 (g : D → List D → Option R) (x : R) : List R → M R := fun rs ρ => mtT2 g ρ (deref ρ x) (derefs ρ rs)
theorem mtK2_ap (g : D → List D → Option R) (x : R) (rs : List R) (ρ : DEnv) : mtK2 g x rs ρ = mtT2 g ρ (deref ρ x) (derefs ρ rs) := (rfl)
def mtT (T : Ty) (g : D → List D → Option R) (fa : M (List R)) (x : R) (ρ : DEnv) (o : Option D) : Ou R := match o with
  | some d => if isTy T d = true then bT (fa ρ) (mtK2 g x) else none
  | none => none
theorem mtT_some (T : Ty) (g : D → List D → Option R) (fa : M (List R)) (x : R) (ρ : DEnv) (d : D) (h : isTy T d = true) : mtT T g fa x ρ (some d) = bT (fa ρ) (mtK2 g x) := if_pos h
def mtK (T : Ty) (g : D → List D → Option R) (fa : M (List R)) : R → M R := fun x ρ => mtT T g fa x ρ (deref ρ x)
theorem mtK_ap (T : Ty) (g : D → List D → Option R) (fa : M (List R)) (x : R) (ρ : DEnv) : mtK T  g  fa  x ρ = mtT T g fa x ρ (deref ρ x) := (rfl)
theorem mt_ap (T : Ty) (g : D → List D → Option R) (fo : M R) (fa : M (List R)) (ρ : DEnv) : fMt T g fo fa ρ = bT (fo ρ) (mtK T g fa) := (rfl)
theorem ty_lst (ds : List D) : isTy .list (.lst ds) = true := (rfl)
def mutT3 (i : Nat) (ρ : DEnv) (o : Option (D × D)) : Ou R := match o with
  | some (z, d') => some (.ok (.val z), setC ρ i d')
  | none => none
theorem mutT3_some (i : Nat) (ρ : DEnv) (z d : D) : mutT3 i ρ (some (z, d)) = some (.ok (.val z), setC ρ i d) := (rfl)
def mutT2 (g : D → List D → Option (D × D)) (i : Nat) (ρ : DEnv) (o : Option D) (p : Option (List D)) : Ou R := match o, p with
  | some d, some ds => mutT3 i ρ (g d ds)
  | _, _ => none
theorem mutT2_some (g : D → List D → Option (D × D)) (i : Nat) (ρ : DEnv) (d : D) (ds : List D) : mutT2 g i ρ (some d) (some ds) = mutT3 i ρ (g d ds) := (rfl)
def mutK2 (g : D → List D → Option (D × D)) (i : Nat) : List R → M R := fun rs ρ => mutT2 g i ρ (cont ρ i) (stabs rs)
theorem mutK2_ap (g : D → List D → Option (D × D)) (i : Nat) (rs : List R) (ρ : DEnv) : mutK2 g i rs ρ = mutT2 g i ρ (cont ρ i) (stabs rs) := (rfl)
def mutT (T : Ty) (g : D → List D → Option (D × D)) (fa : M (List R)) (i : Nat) (ρ : DEnv) (o : Option D) : Ou R := match o with
  | some d => if isTy T d = true then bT (fa ρ) (mutK2 g i) else none
  | none => none
theorem mutT_some (T : Ty) (g : D → List D → Option (D × D)) (fa : M (List R)) (i : Nat) (ρ : DEnv) (d : D) (h : isTy T d = true) : mutT T g fa i ρ (some d) = bT (fa ρ) (mutK2 g i) := if_pos h
def mutT0 (T : Ty) (g : D → List D → Option (D × D)) (fa : M (List R)) (x : R) (ρ : DEnv) : Ou R := match x with
  | .slot i => mutT T g fa i ρ (cont ρ i)
  | _ => none
theorem mutT0_slot (T : Ty) (g : D → List D → Option (D × D)) (fa : M (List R)) (i : Nat) (ρ : DEnv) : mutT0 T g fa (.slot i) ρ = mutT T g fa i ρ (cont ρ i) := (rfl)
theorem mut_ap (T : Ty) (g : D → List D → Option (D × D)) (fo : M R) (fa : M (List R)) (ρ : DEnv) : fMut T g fo fa ρ = bT (fo ρ) (mutT0 T g fa) := by
  show M.bind fo _ ρ = _
  rw [bind_ap]
  refine congrArg (bT (fo ρ)) ?_
  funext x ρ1
  cases x with
  | val d => rfl
  | fresh d => rfl
  | slot i =>
    show _ = mutT T g fa i ρ1 (cont ρ1 i)
    cases h : cont ρ1 i with
    | none => simp only [h]; rfl
    | some d => simp only [h]; rfl
/-- slices, ranges -/
def slT (lo hi : Option Int) (ρ : DEnv) (o : Option D) : Ou R := match o with
  | some d => ofT (gSl lo hi d) ρ
  | none => none
theorem slT_some (lo hi : Option Int) (ρ : DEnv) (d : D) : slT lo hi ρ (some d) = ofT (gSl lo hi d) ρ := (rfl)
def slK3 (x : R) (lo : Option Int) : Option Int → M R := fun hi ρ => slT lo hi ρ (deref ρ x)
theorem slK3_ap (x : R) (lo : Option Int) (hi : Option Int) (ρ : DEnv) : slK3 x  lo  hi ρ = slT lo hi ρ (deref ρ x) := (rfl)
def slK2 (fh : M (Option Int)) (x : R) : Option Int → M R := fun lo ρ => bT (fh ρ) (slK3 x lo)
theorem slK2_ap (fh : M (Option Int)) (x : R) (lo : Option Int) (ρ : DEnv) : slK2 fh  x  lo ρ = bT (fh ρ) (slK3 x lo) := (rfl)
def slK1 (fl fh : M (Option Int)) : R → M R := fun x ρ => bT (fl ρ) (slK2 fh x)
theorem slK1_ap (fl fh : M (Option Int)) (x : R) (ρ : DEnv) : slK1 fl fh  x ρ = bT (fl ρ) (slK2 fh x) := (rfl)
theorem sl_ap (f : M R) (fl fh : M (Option Int)) (ρ : DEnv) : fSl f fl fh ρ = bT (f ρ) (slK1 fl fh) := (rfl)
def intT (ρ : DEnv) (o : Option D) : Ou (Option Int) := match o with
  | some (.int i) => some (.ok (some i), ρ)
  | _ => none
theorem intT_int (ρ : DEnv) (i : Int) : intT ρ (some (.int i)) = some (.ok (some i), ρ) := (rfl)
def partK  : R → M (Option Int) := fun r ρ => intT ρ (deref ρ r)
theorem partK_ap  (r : R) (ρ : DEnv) : partK  r ρ = intT ρ (deref ρ r) := (rfl)
theorem part_ap (f : M R) (ρ : DEnv) : fPart f ρ = bT (f ρ) partK := (rfl)
def rg1T (ρ : DEnv) (o : Option D) : Ou (Int × Int) := match o with
  | some (.int i) => some (.ok (0, i), ρ)
  | _ => none
theorem rg1T_int (ρ : DEnv) (i : Int) : rg1T ρ (some (.int i)) = some (.ok (0, i), ρ) := (rfl)
def rg1K  : R → M (Int × Int) := fun r ρ => rg1T ρ (deref ρ r)
theorem rg1K_ap  (r : R) (ρ : DEnv) : rg1K  r ρ = rg1T ρ (deref ρ r) := (rfl)
theorem rg1_ap (f : M R) (ρ : DEnv) : fRg1 f ρ = bT (f ρ) rg1K := (rfl)
def rg2T (ρ : DEnv) (o p : Option D) : Ou (Int × Int) := match o, p with
  | some (.int i), some (.int j) => some (.ok (i, j), ρ)
  | _, _ => none
theorem rg2T_int (ρ : DEnv) (i j : Int) : rg2T ρ (some (.int i)) (some (.int j)) = some (.ok (i, j), ρ) := (rfl)
def rg2K2 (r : R) : R → M (Int × Int) := fun q ρ => rg2T ρ (deref ρ r) (deref ρ q)
theorem rg2K2_ap (r : R) (q : R) (ρ : DEnv) : rg2K2 r  q ρ = rg2T ρ (deref ρ r) (deref ρ q) := (rfl)
def rg2K1 (g : M R) : R → M (Int × Int) := fun r ρ => bT (g ρ) (rg2K2 r)
theorem rg2K1_ap (g : M R) (r : R) (ρ : DEnv) : rg2K1 g  r ρ = bT (g ρ) (rg2K2 r) := (rfl)
theorem rg2_ap (f g : M R) (ρ : DEnv) : fRg2 f g ρ = bT (f ρ) (rg2K1 g) := (rfl)
def lrK : Int × Int → M R := fun p ρ => if rgOk p.1 p.2 = true then some (.ok (.fresh (.lst (rgD p.1 p.2))), ρ) else none
theorem lrK_ap (a b : Int) (ρ : DEnv) : lrK (a, b) ρ = if rgOk a b = true then some (.ok (.fresh (.lst (rgD a b))), ρ) else none := (rfl)
theorem listRg_ap (f : M (Int × Int)) (ρ : DEnv) : fListRg f ρ = bT (f ρ) lrK := (rfl)
/-- statements -/
theorem next_ap (ρ : DEnv) : fNext ρ = some (.ok .next, ρ) := (rfl)
def sqT (o : Ou Fl) (g : M Fl) : Ou Fl := match o with
  | some (.ok .next, ρ1) => g ρ1
  | r => r
theorem seq_ap (f g : M Fl) (ρ : DEnv) : fSeq f g ρ = sqT (f ρ) g := (rfl)
theorem sqT_next (ρ : DEnv) (g : M Fl) : sqT (some (.ok .next, ρ)) g = g ρ := (rfl)
theorem sqT_ret (d : D) (ρ : DEnv) (g : M Fl) : sqT (some (.ok (.ret d), ρ)) g = some (.ok (.ret d), ρ) := (rfl)
theorem sqT_brk (ρ : DEnv) (g : M Fl) : sqT (some (.ok .brk, ρ)) g = some (.ok .brk, ρ) := (rfl)
theorem sqT_cont (ρ : DEnv) (g : M Fl) : sqT (some (.ok .cont, ρ)) g = some (.ok .cont, ρ) := (rfl)
theorem sqT_err (e : Exc) (ρ : DEnv) (g : M Fl) : sqT (some (.error e, ρ)) g = some (.error e, ρ) := (rfl)
def dropK  : R → M Fl := fun r ρ => some (.ok .next, ρ)
theorem dropK_ap  (r : R) (ρ : DEnv) : dropK  r ρ = some (.ok .next, ρ) := (rfl)
theorem drop_ap (f : M R) (ρ : DEnv) : fDrop f ρ = bT (f ρ) dropK := (rfl)
def retT (ρ : DEnv) (o : Option D) : Ou Fl := match o with
  | some d => some (.ok (.ret d), ρ)
  | none => none
theorem retT_some (ρ : DEnv) (d : D) : retT ρ (some d) = some (.ok (.ret d), ρ) := (rfl)
def retK  : R → M Fl := fun r ρ => retT ρ (retD ρ r)
theorem retK_ap  (r : R) (ρ : DEnv) : retK  r ρ = retT ρ (retD ρ r) := (rfl)
theorem ret_ap (f : M R) (ρ : DEnv) : fRet f ρ = bT (f ρ) retK := (rfl)
theorem retD_val (ρ : DEnv) (d : D) : retD ρ (.val d) = some d := (rfl)
theorem retD_fresh (ρ : DEnv) (d : D) : retD ρ (.fresh d) = some d := (rfl)
def owT (o : Option SV) : Option D := match o with
  | some (.ow d) => some d
  | _ => none
theorem owT_ow (d : D) : owT (some (.ow d)) = some d := (rfl)
theorem retD_slot (ρ : DEnv) (i : Nat) : retD ρ (.slot i) = owT (at0 ρ i) := by
  unfold retD owT
  rw [at0_eq]
  simp only
  cases h : ρ[i]? with
  | none => rfl
  | some o => cases o with
    | none => rfl
    | some sv => cases sv <;> rfl
def ioT (o : Option (Option SV)) : Bool := match o with
  | some (some (.io _)) => false
  | some _ => true
  | none => false
/-- may be stored to -/
def io0 (ρ : DEnv) (i : Nat) : Bool := match ρ, i with
  | [], _ => false
  | some (.io _) :: _, 0 => false
  | _ :: _, 0 => true
  | _ :: r, i + 1 => io0 r i
theorem io0_n (r : DEnv) : io0 (none :: r) 0 = true := (rfl)
theorem io0_sh (d : D) (r : DEnv) : io0 (some (.sh d) :: r) 0 = true := (rfl)
theorem io0_ow (d : D) (r : DEnv) : io0 (some (.ow d) :: r) 0 = true := (rfl)
theorem io0_succ (o : Option SV) (r : DEnv) (i : Nat) : io0 (o :: r) (i + 1) = io0 r i := by
  cases o with
  | none => rfl
  | some sv => cases sv <;> rfl
theorem noIo_ap : ∀ (ρ : DEnv) (i : Nat), noIo ρ i = io0 ρ i
  | [], i => by simp [noIo, io0]
  | o :: r, 0 => by
    cases o with
    | none => rfl
    | some sv => cases sv <;> rfl
  | o :: r, i + 1 => by
    rw [io0_succ, ← noIo_ap r i]
    unfold noIo
    rw [List.getElem?_cons_succ]
def asT2 (ts : List (Nat × Bool)) (rs : List R) (ρ : DEnv) (i : Nat) (o : Option SV) : Option DEnv := match o with
  | some sv => if noIo ρ i = true then asgAll ts rs (ρ.set i (some sv)) else none
  | none => none
theorem asg_nil (ρ : DEnv) : asgAll [] [] ρ = some ρ := (rfl)
theorem asg_cons (i : Nat) (b : Bool) (ts : List (Nat × Bool)) (r : R) (rs : List R) (ρ : DEnv) : asgAll ((i, b) :: ts) (r :: rs) ρ = asT2 ts rs ρ i (asgR b r) := (rfl)
theorem asT2_some (ts : List (Nat × Bool)) (rs : List R) (ρ : DEnv) (i : Nat) (sv : SV) : asT2 ts rs ρ i (some sv) = if noIo ρ i = true then asgAll ts rs (ρ.set i (some sv)) else none := (rfl)
theorem asg_valF (d : D) : asgR false (.val d) = some (.sh d) := (rfl)
theorem asg_freF (d : D) : asgR false (.fresh d) = some (.sh d) := (rfl)
theorem asg_freL (ds : List D) : asgR true (.fresh (.lst ds)) = some (.ow (.lst ds)) := (rfl)
theorem asg_freK (ds : List (Key × D)) : asgR true (.fresh (.dK ds)) = some (.ow (.dK ds)) := (rfl)
theorem asg_freT (ds : List (List Key × D)) : asgR true (.fresh (.dT ds)) = some (.ow (.dT ds)) := (rfl)
def parT (o : Option DEnv) : Ou Fl := match o with
  | some ρ => some (.ok .next, ρ)
  | none => none
theorem parT_some (ρ : DEnv) : parT (some ρ) = some (.ok .next, ρ) := (rfl)
def parK (ts : List (Nat × Bool)) : List R → M Fl := fun rs ρ => parT (asgAll ts rs ρ)
theorem parK_ap (ts : List (Nat × Bool)) (rs : List R) (ρ : DEnv) : parK ts  rs ρ = parT (asgAll ts rs ρ) := (rfl)
theorem par_ap (ts : List (Nat × Bool)) (f : M (List R)) (ρ : DEnv) : fPar ts f ρ = bT (f ρ) (parK ts) := (rfl)
def valT (ρ : DEnv) (o : Option D) : Ou R := match o with
  | some d => some (.ok (.val d), ρ)
  | none => none
theorem valT_some (ρ : DEnv) (d : D) : valT ρ (some d) = some (.ok (.val d), ρ) := (rfl)
def valK  : R → M R := fun r ρ => valT ρ (stab r)
theorem valK_ap  (r : R) (ρ : DEnv) : valK  r ρ = valT ρ (stab r) := (rfl)
theorem val_ap (f : M R) (ρ : DEnv) : fVal f ρ = bT (f ρ) valK := (rfl)
def stT2 (s : Nat) (ρ : DEnv) (o : Option D) : Ou Fl := match o with
  | some d' => some (.ok .next, setC ρ s d')
  | none => none
theorem stT2_some (s : Nat) (ρ : DEnv) (d : D) : stT2 s ρ (some d) = some (.ok .next, setC ρ s d) := (rfl)
def stT (s : Nat) (ρ : DEnv) (o1 o2 o3 : Option D) : Ou Fl := match o1, o2, o3 with
  | some d, some x, some k => stT2 s ρ (putAt d k x)
  | _, _, _ => none
theorem stT_some (s : Nat) (ρ : DEnv) (d x k : D) : stT s ρ (some d) (some x) (some k) = stT2 s ρ (putAt d k x) := (rfl)
def stT0 (o r i : R) (ρ : DEnv) : Ou Fl := match o with
  | .slot s => stT s ρ (cont ρ s) (stab r) (deref ρ i)
  | _ => none
theorem stT0_slot (s : Nat) (r i : R) (ρ : DEnv) : stT0 (.slot s) r i ρ = stT s ρ (cont ρ s) (stab r) (deref ρ i) := (rfl)
def stK3 (r o : R) : R → M Fl := fun i ρ => stT0 o r i ρ
theorem stK3_ap (r o : R) (i : R) (ρ : DEnv) : stK3 r o  i ρ = stT0 o r i ρ := (rfl)
def stK2 (fi : M R) (r : R) : R → M Fl := fun o ρ => bT (fi ρ) (stK3 r o)
theorem stK2_ap (fi : M R) (r : R) (o : R) (ρ : DEnv) : stK2 fi  r  o ρ = bT (fi ρ) (stK3 r o) := (rfl)
def stK1 (fo fi : M R) : R → M Fl := fun r ρ => bT (fo ρ) (stK2 fi r)
theorem stK1_ap (fo fi : M R) (r : R) (ρ : DEnv) : stK1 fo fi  r ρ = bT (fo ρ) (stK2 fi r) := (rfl)
theorem store_ap (fe fo fi : M R) (ρ : DEnv) : fStore fe fo fi ρ = bT (fe ρ) (stK1 fo fi) := (rfl)
def auT3 (s : Nat) (ρ : DEnv) (op : Int → Int → Int) (a : Int) (o1 o2 o3 : Option D) : Ou Fl := match o1, o2, o3 with
  | some d2, some k2, some (.int b) => stT2 s ρ (putAt d2 k2 (.int (op a b)))
  | _, _, _ => none
theorem auT3_some (s : Nat) (ρ : DEnv) (op : Int → Int → Int) (a : Int) (d k : D) (b : Int) : auT3 s ρ op a (some d) (some k) (some (.int b)) = stT2 s ρ (putAt d k (.int (op a b))) := (rfl)
def auK3 (s : Nat) (op : Int → Int → Int) (a : Int) (i : R) : R → M Fl := fun r ρ => auT3 s ρ op a (cont ρ s) (deref ρ i) (deref ρ r)
theorem auK3_ap (s : Nat) (op : Int → Int → Int) (a : Int) (i r : R) (ρ : DEnv) : auK3 s op a i r ρ = auT3 s ρ op a (cont ρ s) (deref ρ i) (deref ρ r) := (rfl)
def auT2 (s : Nat) (op : Int → Int → Int) (i : R) (fe : M R) (ρ : DEnv) (o : Option D) : Ou Fl := match o with
  | some (.int a) => bT (fe ρ) (auK3 s op a i)
  | _ => none
theorem auT2_some (s : Nat) (op : Int → Int → Int) (i : R) (fe : M R) (ρ : DEnv) (a : Int) : auT2 s op i fe ρ (some (.int a)) = bT (fe ρ) (auK3 s op a i) := (rfl)
def auT1 (s : Nat) (op : Int → Int → Int) (i : R) (fe : M R) (ρ : DEnv) (o1 o2 : Option D) : Ou Fl := match o1, o2 with
  | some d, some k => auT2 s op i fe ρ (getAt d k)
  | _, _ => none
theorem auT1_some (s : Nat) (op : Int → Int → Int) (i : R) (fe : M R) (ρ : DEnv) (d k : D) : auT1 s op i fe ρ (some d) (some k) = auT2 s op i fe ρ (getAt d k) := (rfl)
def auT0 (op : Int → Int → Int) (fe : M R) (o i : R) (ρ : DEnv) : Ou Fl := match o with
  | .slot s => auT1 s op i fe ρ (cont ρ s) (deref ρ i)
  | _ => none
theorem auT0_slot (op : Int → Int → Int) (fe : M R) (s : Nat) (i : R) (ρ : DEnv) : auT0 op fe (.slot s) i ρ = auT1 s op i fe ρ (cont ρ s) (deref ρ i) := (rfl)
def auK2 (op : Int → Int → Int) (fe : M R) (o : R) : R → M Fl := fun i ρ => auT0 op fe o i ρ
theorem auK2_ap (op : Int → Int → Int) (fe : M R) (o : R) (i : R) (ρ : DEnv) : auK2 op  fe  o  i ρ = auT0 op fe o i ρ := (rfl)
def auK1 (op : Int → Int → Int) (fi fe : M R) : R → M Fl := fun o ρ => bT (fi ρ) (auK2 op fe o)
theorem auK1_ap (op : Int → Int → Int) (fi fe : M R) (o : R) (ρ : DEnv) : auK1 op  fi fe  o ρ = bT (fi ρ) (auK2 op fe o) := (rfl)
theorem augS_ap (op : Int → Int → Int) (fo fi fe : M R) (ρ : DEnv) : fAugS op fo fi fe ρ = bT (fo ρ) (auK1 op fi fe) := by
  show M.bind fo _ ρ = _
  rw [bind_ap]
  refine congrArg (bT (fo ρ)) ?_
  funext o ρ1
  show M.bind fi _ ρ1 = bT (fi ρ1) (auK2 op fe o)
  rw [bind_ap]
  refine congrArg (bT (fi ρ1)) ?_
  funext i ρ2
  show _ = auT0 op fe o i ρ2
  cases o with
  | val d => rfl
  | fresh d => rfl
  | slot s =>
    show _ = auT1 s op i fe ρ2 (cont ρ2 s) (deref ρ2 i)
    unfold auT1
    cases h : cont ρ2 s with
    | none => simp only [h]
    | some d =>
      cases h2 : deref ρ2 i with
      | none => simp only [h, h2]
      | some k =>
        simp only [h, h2]
        unfold auT2
        cases getAt d k with
        | none => rfl
        | some z => cases z <;> rfl
def augT2 (i : Nat) (op : Int → Int → Int) (a : Int) (ρ : DEnv) (o : Option D) : Ou Fl := match o with
  | some (.int b) => if noIo ρ i = true then some (.ok .next, ρ.set i (some (.sh (.int (op a b))))) else none
  | _ => none
theorem augT2_int (i : Nat) (op : Int → Int → Int) (a b : Int) (ρ : DEnv) : augT2 i op a ρ (some (.int b)) = if noIo ρ i = true then some (.ok .next, ρ.set i (some (.sh (.int (op a b))))) else none := (rfl)
def augK (i : Nat) (op : Int → Int → Int) (a : Int) : R → M Fl := fun r ρ => augT2 i op a ρ (deref ρ r)
theorem augK_ap (i : Nat) (op : Int → Int → Int) (a : Int) (r : R) (ρ : DEnv) : augK i op a r ρ = augT2 i op a ρ (deref ρ r) := (rfl)
def augT (i : Nat) (op : Int → Int → Int) (fe : M R) (ρ : DEnv) (o : Option SV) : Ou Fl := match o with
  | some (.sh (.int a)) => bT (fe ρ) (augK i op a)
  | _ => none
theorem augT_int (i : Nat) (op : Int → Int → Int) (fe : M R) (ρ : DEnv) (a : Int) : augT i op fe ρ (some (.sh (.int a))) = bT (fe ρ) (augK i op a) := (rfl)
theorem aug_ap (i : Nat) (op : Int → Int → Int) (fe : M R) (ρ : DEnv) : fAug i op fe ρ = augT i op fe ρ (at0 ρ i) := by
  unfold fAug augT
  rw [at0_eq]
  cases h : ρ[i]? with
  | none => rfl
  | some o => cases o with
    | none => rfl
    | some sv => cases sv with
      | sh d => cases d <;> rfl
      | ow d => rfl
      | io d => rfl
/-- walks -/
def itLT (ρ : DEnv) (o : Option D) : Ou (List D) := match o with
  | some (.lst ds) => some (.ok ds, ρ)
  | _ => none
theorem itLT_lst (ρ : DEnv) (ds : List D) : itLT ρ (some (.lst ds)) = some (.ok ds, ρ) := (rfl)
def itLK  : R → M (List D) := fun r ρ => itLT ρ (stab r)
theorem itLK_ap  (r : R) (ρ : DEnv) : itLK  r ρ = itLT ρ (stab r) := (rfl)
theorem itL_ap (f : M R) (ρ : DEnv) : fItL f ρ = bT (f ρ) itLK := (rfl)
def itTT (ρ : DEnv) (o : Option D) : Ou (List D) := match o with
  | some (.tup ds) => some (.ok ds, ρ)
  | _ => none
theorem itTT_tup (ρ : DEnv) (ds : List D) : itTT ρ (some (.tup ds)) = some (.ok ds, ρ) := (rfl)
def itTK  : R → M (List D) := fun r ρ => itTT ρ (stab r)
theorem itTK_ap  (r : R) (ρ : DEnv) : itTK  r ρ = itTT ρ (stab r) := (rfl)
theorem itT_ap (f : M R) (ρ : DEnv) : fItT f ρ = bT (f ρ) itTK := (rfl)
def itR1T (ρ : DEnv) (o : Option (List D)) : Ou (List D) := match o with
  | some [.int n] => if -4611686018427387904 ≤ n ∧ n < 4611686018427387904 then some (.ok (rgD 0 n), ρ) else none
  | _ => none
theorem itR1T_int (ρ : DEnv) (n : Int) : itR1T ρ (some [.int n]) = if -4611686018427387904 ≤ n ∧ n < 4611686018427387904 then some (.ok (rgD 0 n), ρ) else none := (rfl)
def itR1K  : List R → M (List D) := fun rs ρ => itR1T ρ (derefs ρ rs)
theorem itR1K_ap  (rs : List R) (ρ : DEnv) : itR1K  rs ρ = itR1T ρ (derefs ρ rs) := (rfl)
theorem itR1_ap (f : M (List R)) (ρ : DEnv) : fItR1 f ρ = bT (f ρ) itR1K := (rfl)
def itR2T (ρ : DEnv) (o : Option (List D)) : Ou (List D) := match o with
  | some [.int i, .int n] => if -4611686018427387904 ≤ i ∧ i < 4611686018427387904 ∧ -4611686018427387904 ≤ n ∧ n < 4611686018427387904 then some (.ok (rgD i n), ρ) else none
  | _ => none
theorem itR2T_int (ρ : DEnv) (i n : Int) : itR2T ρ (some [.int i, .int n]) = if -4611686018427387904 ≤ i ∧ i < 4611686018427387904 ∧ -4611686018427387904 ≤ n ∧ n < 4611686018427387904 then some (.ok (rgD i n), ρ) else none := (rfl)
def itR2K  : List R → M (List D) := fun rs ρ => itR2T ρ (derefs ρ rs)
theorem itR2K_ap  (rs : List R) (ρ : DEnv) : itR2K  rs ρ = itR2T ρ (derefs ρ rs) := (rfl)
theorem itR2_ap (f : M (List R)) (ρ : DEnv) : fItR2 f ρ = bT (f ρ) itR2K := (rfl)
theorem for_ap (fi : M (List D)) (tg : D → DEnv → Option DEnv) (body : M Fl) (ρ : DEnv) : fFor fi tg body ρ = bT (fi ρ) (fLoop tg body) := (rfl)
def lcT (ρ0 : DEnv) (vs : List Nat) (o : Option (List D × DEnv)) : Ou R := match o with
  | some (acc, ρ1) => some (.ok (.fresh (.lst acc)), putBack ρ0 ρ1 vs)
  | none => none
theorem lcT_some (ρ0 : DEnv) (vs : List Nat) (acc : List D) (ρ1 : DEnv) : lcT ρ0 vs (some (acc, ρ1)) = some (.ok (.fresh (.lst acc)), putBack ρ0 ρ1 vs) := (rfl)
def lcK (vs : List Nat) (fg : D → DEnv → Option DEnv) (ft : M Bool) (fe : M R) : List D → M R := fun ds ρ => if vs.all (noOwn ρ) = true then lcT ρ vs (lcLoop vs fg ft fe ds [] ρ) else none
theorem lcK_ap (vs : List Nat) (fg : D → DEnv → Option DEnv) (ft : M Bool) (fe : M R) (ds : List D) (ρ : DEnv) : lcK vs  fg  ft  fe  ds ρ = if vs.all (noOwn ρ) = true then lcT ρ vs (lcLoop vs fg ft fe ds [] ρ) else none := (rfl)
theorem lc_ap (fi : M (List D)) (vs : List Nat) (fg : D → DEnv → Option DEnv) (ft : M Bool) (fe : M R) (ρ : DEnv) : fLc fi vs fg ft fe ρ = bT (fi ρ) (lcK vs fg ft fe) := (rfl)
/-- calls -/
def clT (ρ : DEnv) (rs : List R) (ios : List Nat) (o : Option (Except Exc D × List D)) : Ou R := match o with
  | some (.ok d, outs) => if outs.length = ios.length then some (.ok (.val d), putC ρ (ioL rs ios outs)) else none
  | some (.error x, outs) => if outs.length = ios.length then some (.error x, putC ρ (ioL rs ios outs)) else none
  | none => none
def clT0 (ios : List Nat) (n : Nat) (G : GD) (rs : List R) (ρ : DEnv) (o : Option (List D)) : Ou R := match o with
  | some ds => if argOk ios 0 rs = true ∧ ds.length = n ∧ (∀ i ∈ ios, i < n) then clT ρ rs ios (G ds) else none
  | none => none
def clK (ios : List Nat) (n : Nat) (G : GD) : List R → M R := fun rs ρ => clT0 ios n G rs ρ (derefs ρ rs)
theorem clK_ap (ios : List Nat) (n : Nat) (G : GD) (rs : List R) (ρ : DEnv) : clK ios  n  G  rs ρ = clT0 ios n G rs ρ (derefs ρ rs) := (rfl)
theorem call_ap (ios : List Nat) (n : Nat) (G : GD) (fa : M (List R)) (ρ : DEnv) : fCall ios n G fa ρ = bT (fa ρ) (clK ios n G) := (rfl)
theorem clT0_some (ios : List Nat) (n : Nat) (G : GD) (rs : List R) (ρ : DEnv) (ds : List D) : clT0 ios n G rs ρ (some ds) = if argOk ios 0 rs = true ∧ ds.length = n ∧ (∀ i ∈ ios, i < n) then clT ρ rs ios (G ds) else none := (rfl)
theorem clT_ok (ρ : DEnv) (rs : List R) (ios : List Nat) (d : D) (outs : List D) : clT ρ rs ios (some (.ok d, outs)) = if outs.length = ios.length then some (.ok (.val d), putC ρ (ioL rs ios outs)) else none := (rfl)
theorem clT_err (ρ : DEnv) (rs : List R) (ios : List Nat) (x : Exc) (outs : List D) : clT ρ rs ios (some (.error x, outs)) = if outs.length = ios.length then some (.error x, putC ρ (ioL rs ios outs)) else none := (rfl)
theorem raise_ap (x : Str) (ρ : DEnv) : fRaise x ρ = some (.error (x, none), ρ) := (rfl)
def tryT (yes no : List Str) (fs : M Fl) (o : Ou Fl) : Ou Fl := match o with
  | some (.error e, ρ1) => if e.1 ∈ yes then fs ρ1 else if e.1 ∈ no then some (.error e, ρ1) else none
  | r => r
theorem try_ap (yes no : List Str) (fb fs : M Fl) (ρ : DEnv) : fTry yes no fb fs ρ = tryT yes no fs (fb ρ) := (rfl)
theorem tryT_err (yes no : List Str) (fs : M Fl) (e : Exc) (ρ1 : DEnv) : tryT yes no fs (some (.error e, ρ1)) = if e.1 ∈ yes then fs ρ1 else if e.1 ∈ no then some (.error e, ρ1) else none := (rfl)
theorem tryT_ok (yes no : List Str) (fs : M Fl) (x : Fl) (ρ1 : DEnv) : tryT yes no fs (some (.ok x, ρ1)) = some (.ok x, ρ1) := (rfl)
def neT (o : Ou Fl) : Ou Fl := match o with
  | some (.error _, _) => none
  | r => r
theorem noErr_ap (f : M Fl) (ρ : DEnv) : fNoErr f ρ = neT (f ρ) := (rfl)
theorem neT_ok (x : Fl) (ρ : DEnv) : neT (some (.ok x, ρ)) = some (.ok x, ρ) := (rfl)
def shT (ρ : DEnv) (i : Nat) (f : M Fl) (o : Option SV) : Ou Fl := match o with
  | some (.ow d) => f (ρ.set i (some (.sh d)))
  | _ => none
theorem share_ap (i : Nat) (f : M Fl) (ρ : DEnv) : fShare i f ρ = shT ρ i f (at0 ρ i) := by
  unfold fShare shareD shT
  rw [at0_eq]
  cases h : ρ[i]? with
  | none => rfl
  | some o => cases o with
    | none => rfl
    | some sv => cases sv <;> rfl
theorem shT_ow (ρ : DEnv) (i : Nat) (f : M Fl) (d : D) : shT ρ i f (some (.ow d)) = f (ρ.set i (some (.sh d))) := (rfl)
/-- a def's start and end -/
def enT (ios : List Nat) (o : Ou Fl) : Option (Except Exc D × List D) := match o with
  | some (.ok (.ret d), ρ) => (outsOf ρ ios).map fun o => (.ok d, o)
  | some (.ok .next, ρ) => (outsOf ρ ios).map fun o => (.ok .non, o)
  | some (.error x, ρ) => (outsOf ρ ios).map fun o => (.error x, o)
  | _ => none
theorem mkG_ap (n : Nat) (ios : List Nat) (fb : M Fl) (ds : List D) : mkG n ios fb ds = enT ios (fb (startD n ios ds)) := (rfl)
theorem enT_ret (ios : List Nat) (d : D) (ρ : DEnv) : enT ios (some (.ok (.ret d), ρ)) = (outsOf ρ ios).map fun o => (.ok d, o) := (rfl)
theorem enT_next (ios : List Nat) (ρ : DEnv) : enT ios (some (.ok .next, ρ)) = (outsOf ρ ios).map fun o => (.ok .non, o) := (rfl)
theorem enT_err (ios : List Nat) (x : Exc) (ρ : DEnv) : enT ios (some (.error x, ρ)) = (outsOf ρ ios).map fun o => (.error x, o) := (rfl)
def ouT (o : Option SV) (p : Option (List D)) : Option (List D) := match o, p with
  | some (.io d), some ds => some (d :: ds)
  | _, _ => none
theorem outs_nil (ρ : DEnv) : outsOf ρ [] = some [] := (rfl)
theorem outs_cons (ρ : DEnv) (i : Nat) (is : List Nat) : outsOf ρ (i :: is) = ouT (at0 ρ i) (outsOf ρ is) := by
  rw [outsOf]
  generalize outsOf ρ is = o
  rw [at0_eq]
  unfold ouT
  cases h : ρ[i]? with
  | none => rfl
  | some p => cases p with
    | none => rfl
    | some sv => cases sv <;> (cases o <;> rfl)
theorem ouT_io (d : D) (ds : List D) : ouT (some (.io d)) (some ds) = some (d :: ds) := (rfl)
/-! ### data -/
theorem shp_int (i : Int) : shp (.int i) = true := (okD_int i).shp
theorem shp_bl (i : Bool) : shp (.bl i) = true := (okD_bl i).shp
theorem shp_non : shp .non = true := okD_non.shp
theorem deq_int (i j : Int) : deq (.int i) (.int j) = decide (i = j) := by
  unfold deq
  rw [toPy, toPy, PyData.eqv]
  rfl
theorem gEq_int (i j : Int) : gEq (.int i) (.int j) = some (.val (.bl (decide (i = j)))) := by
  unfold gEq
  rw [if_pos ⟨shp_int i, shp_int j⟩, deq_int]
theorem gNe_int (i j : Int) : gNe (.int i) (.int j) = some (.val (.bl (!decide (i = j)))) := by
  unfold gNe
  rw [if_pos ⟨shp_int i, shp_int j⟩, deq_int]
theorem gAdd_int (i j : Int) : gAdd (.int i) (.int j) = some (.val (.int (i + j))) := (rfl)
theorem gSub_int (i j : Int) : gSub (.int i) (.int j) = some (.val (.int (i - j))) := (rfl)
theorem gLt_int (i j : Int) : gLt (.int i) (.int j) = some (.val (.bl (decide (i < j)))) := (rfl)
theorem gLe_int (i j : Int) : gLe (.int i) (.int j) = some (.val (.bl (decide (i ≤ j)))) := (rfl)
theorem gGt_int (i j : Int) : gGt (.int i) (.int j) = some (.val (.bl (decide (j < i)))) := (rfl)
theorem gGe_int (i j : Int) : gGe (.int i) (.int j) = some (.val (.bl (decide (j ≤ i)))) := (rfl)
theorem gInt_int (i : Int) : gInt [.int i] = some (.val (.int i)) := (rfl)
theorem gAbs_int (i : Int) : gAbs [.int i] = some (.val (.int (if i < 0 then -i else i))) := (rfl)
theorem gMod_int {i j : Int} (h : j ≠ 0) : gMod (.int i) (.int j) = some (.val (.int (i.fmod j))) := by
  unfold gMod gI
  simp only
  rw [if_pos (by unfold cMod; exact decide_eq_true h)]
theorem gDiv_int {i j : Int} (h : j ≠ 0) (h2 : j.natAbs < 1073741824) : gDiv (.int i) (.int j) = some (.val (.int (i.fdiv j))) := by
  unfold gDiv gI
  simp only
  rw [if_pos (by unfold cDiv; rw [decide_eq_true h, decide_eq_true h2]; rfl)]
theorem gMul_int {i j : Int} (h : -18446744073709551616 < j ∧ j < 18446744073709551616) : gMul (.int i) (.int j) = some (.val (.int (i * j))) := by
  unfold gMul
  simp only
  rw [if_pos (by unfold cMul; rw [decide_eq_true h.1, decide_eq_true h.2, Bool.and_true, Bool.or_true])]
theorem gIx_lst (ds : List D) (i : Int) : gIx (.lst ds) (.int i) = (atI ds i).map .val := (rfl)
theorem gIx_tup (ds : List D) (i : Int) : gIx (.tup ds) (.int i) = (atI ds i).map .val := (rfl)
theorem gLen_lst (ds : List D) : gLen [.lst ds] = some (.val (.int ds.length)) := (rfl)
theorem gLen_tup (ds : List D) : gLen [.tup ds] = some (.val (.int ds.length)) := (rfl)
theorem gLen_dK (ds : List (Key × D)) : gLen [.dK ds] = some (.val (.int ds.length)) := (rfl)
theorem gTupleOf_lst (ds : List D) : gTupleOf [.lst ds] = some (.val (.tup ds)) := (rfl)
theorem gTupleOf_tup (ds : List D) : gTupleOf [.tup ds] = some (.val (.tup ds)) := (rfl)
theorem gListOf_lst (ds : List D) : gListOf [.lst ds] = some (.fresh (.lst ds)) := (rfl)
theorem gListOf_tup (ds : List D) : gListOf [.tup ds] = some (.fresh (.lst ds)) := (rfl)
theorem atI_nat' {α : Type} {ds : List α} {k : Nat} {d : α} (h : ds[k]? = some d) : atI ds (k : Int) = some d := atI_nat h
theorem putAt_lst {ds : List D} {k : Nat} (x : D) (h : k < ds.length) : putAt (.lst ds) (.int (k : Int)) x = some (.lst (ds.set k x)) := by
  unfold putAt
  simp only
  unfold ixN
  rw [if_pos (by omega), if_pos (by omega)]
  rfl
end L3

namespace L3
open PySem L2
variable [Md] [Tb]
/-! ### loops by their invariants -/
theorem fLoop_ind {tg : D → DEnv → Option DEnv} {body : M Fl} (P : Nat → DEnv → Prop) : ∀ (ds : List D) (k0 : Nat) (ρ : DEnv), P k0 ρ →
    (∀ k ρ d, ds[k]? = some d → P (k0 + k) ρ → ∃ ρ1 ρ2, tg d ρ = some ρ1 ∧ (body ρ1 = some (.ok .next, ρ2) ∨ body ρ1 = some (.ok .cont, ρ2)) ∧ P (k0 + k + 1) ρ2) → ∃ ρ', fLoop tg body ds ρ = some (.ok .next, ρ') ∧ P (k0 + ds.length) ρ'
  | [], k0, ρ, h0, _ => ⟨ρ, rfl, h0⟩
  | d :: ds, k0, ρ, h0, step => by
    obtain ⟨ρ1, ρ2, h1, h2, h3⟩ := step 0 ρ d rfl h0
    obtain ⟨ρ', h4, h5⟩ := fLoop_ind P ds (k0 + 1) ρ2 h3 fun k ρ d hd hp => by
      have := step (k + 1) ρ d (by simpa using hd) (by rw [show k0 + (k + 1) = k0 + 1 + k from by omega]; exact hp)
      rw [show k0 + (k + 1) + 1 = k0 + 1 + k + 1 from by omega] at this
      exact this
    refine ⟨ρ', ?_, by rw [List.length_cons, show k0 + (ds.length + 1) = k0 + 1 + ds.length from by omega]; exact h5⟩
    unfold fLoop
    rw [h1]
    rcases h2 with h2 | h2
    · simp only [h2]; exact h4
    · simp only [h2]; exact h4
theorem fLoop_inv {tg : D → DEnv → Option DEnv} {body : M Fl} (P : Nat → DEnv → Prop) {ds : List D} {ρ : DEnv} (h0 : P 0 ρ)
    (step : ∀ k ρ d, ds[k]? = some d → P k ρ → ∃ ρ1 ρ2, tg d ρ = some ρ1 ∧ body ρ1 = some (.ok .next, ρ2) ∧ P (k + 1) ρ2) : ∃ ρ', fLoop tg body ds ρ = some (.ok .next, ρ') ∧ P ds.length ρ' := by
  obtain ⟨ρ', h1, h2⟩ := fLoop_ind P ds 0 ρ h0 fun k ρ d hd hp => by
    rw [Nat.zero_add] at hp
    obtain ⟨ρ1, ρ2, h1, h2, h3⟩ := step k ρ d hd hp
    exact ⟨ρ1, ρ2, h1, .inl h2, by rw [Nat.zero_add]; exact h3⟩
  exact ⟨ρ', h1, by rw [Nat.zero_add] at h2; exact h2⟩
theorem lc_ind {vs : List Nat} {fg : D → DEnv → Option DEnv} {ft : M Bool} {fe : M R} (P : Nat → List D → DEnv → Prop) : ∀ (ds : List D) (k0 : Nat) (acc : List D) (ρ : DEnv), P k0 acc ρ →
    (∀ k acc ρ d, ds[k]? = some d → P (k0 + k) acc ρ → ∃ ρ1, fg d (wipeD ρ vs) = some ρ1 ∧ ((∃ ρ2, ft ρ1 = some (.ok false, ρ2) ∧ P (k0 + k + 1) acc ρ2) ∨ (∃ ρ2 r x ρ3, ft ρ1 = some (.ok true, ρ2) ∧ fe ρ2 = some (.ok r, ρ3) ∧ stab r = some x ∧ acc.length < sizeLine ∧ P (k0 + k + 1) (acc ++ [x]) ρ3))) →
    ∃ acc' ρ', lcLoop vs fg ft fe ds acc ρ = some (acc', ρ') ∧ P (k0 + ds.length) acc' ρ'
  | [], k0, acc, ρ, h0, _ => ⟨acc, ρ, rfl, h0⟩
  | d :: ds, k0, acc, ρ, h0, step => by
    have nx : ∀ acc1 ρ1, P (k0 + 1) acc1 ρ1 → ∃ acc' ρ', lcLoop vs fg ft fe ds acc1 ρ1 = some (acc', ρ') ∧ P (k0 + (d :: ds).length) acc' ρ' := fun acc1 ρ1 h3 => by
      obtain ⟨acc', ρ', h4, h5⟩ := lc_ind P ds (k0 + 1) acc1 ρ1 h3 fun k acc ρ d hd hp => by
        have := step (k + 1) acc ρ d (by simpa using hd) (by rw [show k0 + (k + 1) = k0 + 1 + k from by omega]; exact hp)
        rw [show k0 + (k + 1) + 1 = k0 + 1 + k + 1 from by omega] at this
        exact this
      exact ⟨acc', ρ', h4, by rw [List.length_cons, show k0 + (ds.length + 1) = k0 + 1 + ds.length from by omega]; exact h5⟩
    obtain ⟨ρ1, h1, h2⟩ := step 0 acc ρ d rfl h0
    rcases h2 with ⟨ρ2, h2, h3⟩ | ⟨ρ2, r, x, ρ3, h2, h3, h4, h5, h6⟩
    · obtain ⟨acc', ρ', a, b⟩ := nx acc ρ2 h3
      refine ⟨acc', ρ', ?_, b⟩
      unfold lcLoop
      rw [h1]
      simp only [h2]
      exact a
    · obtain ⟨acc', ρ', a, b⟩ := nx (acc ++ [x]) ρ3 h6
      refine ⟨acc', ρ', ?_, b⟩
      unfold lcLoop
      rw [h1]
      simp only [h2, h3, h4, if_pos h5]
      exact a
theorem lc_inv {vs : List Nat} {fg : D → DEnv → Option DEnv} {ft : M Bool} {fe : M R} (P : Nat → List D → DEnv → Prop) {ds : List D} {ρ : DEnv} (h0 : P 0 [] ρ)
    (step : ∀ k acc ρ d, ds[k]? = some d → P k acc ρ → ∃ ρ1, fg d (wipeD ρ vs) = some ρ1 ∧ ((∃ ρ2, ft ρ1 = some (.ok false, ρ2) ∧ P (k + 1) acc ρ2) ∨ (∃ ρ2 r x ρ3, ft ρ1 = some (.ok true, ρ2) ∧ fe ρ2 = some (.ok r, ρ3) ∧ stab r = some x ∧ acc.length < sizeLine ∧ P (k + 1) (acc ++ [x]) ρ3))) :
    ∃ acc' ρ', lcLoop vs fg ft fe ds [] ρ = some (acc', ρ') ∧ P ds.length acc' ρ' := by
  obtain ⟨acc', ρ', h1, h2⟩ := lc_ind P ds 0 [] ρ h0 fun k acc ρ d hd hp => by
    rw [Nat.zero_add] at hp ⊢
    exact step k acc ρ d hd hp
  exact ⟨acc', ρ', h1, by rw [Nat.zero_add] at h2; exact h2⟩
theorem fWhile_inv {c : M Bool} {body : M Fl} (P : Nat → DEnv → Prop) (E : DEnv → Prop) (step : ∀ m ρ, P m ρ → (c ρ = some (.ok false, ρ) ∧ E ρ) ∨ (c ρ = some (.ok true, ρ) ∧ ∃ ρ2 m', body ρ = some (.ok .next, ρ2) ∧ m' < m ∧ P m' ρ2)) :
    ∀ n m ρ, P m ρ → m < n → ∃ ρ', fWhile c body n ρ = some (.ok .next, ρ') ∧ E ρ'
  | 0, m, ρ, h, hm => absurd hm (Nat.not_lt_zero _)
  | n + 1, m, ρ, h, hm => by
    rcases step m ρ h with ⟨h1, h2⟩ | ⟨h1, ρ2, m', h2, h3, h4⟩
    · refine ⟨ρ, ?_, h2⟩
      unfold fWhile
      simp only [h1]
    · obtain ⟨ρ', h5, h6⟩ := fWhile_inv P E step n m' ρ2 h4 (by omega)
      refine ⟨ρ', ?_, h6⟩
      unfold fWhile
      simp only [h1, h2]
      exact h5
/-! ### the running of targets, own slots -/
theorem tg_ap (i : Nat) (d : D) (ρ : DEnv) : fTg i d ρ = if noIo ρ i = true then some (ρ.set i (some (.sh d))) else none := (rfl)
theorem wipe_nil (ρ : DEnv) : wipeD ρ [] = ρ := (rfl)
theorem wipe_cons (ρ : DEnv) (v : Nat) (vs : List Nat) : wipeD ρ (v :: vs) = set0 (wipeD ρ vs) v none := set_ap _ _ _
theorem pb_nil (ρ0 ρ : DEnv) : putBack ρ0 ρ [] = ρ := (rfl)
theorem pb_cons (ρ0 ρ : DEnv) (v : Nat) (vs : List Nat) : putBack ρ0 ρ (v :: vs) = set0 (putBack ρ0 ρ vs) v (at0 ρ0 v) := by
  rw [at0_eq]
  exact set_ap _ _ _
def noT (o : Option SV) : Bool := match o with
  | some (.ow _) => false
  | some (.io _) => false
  | _ => true
theorem noOwn_ap (ρ : DEnv) (i : Nat) : noOwn ρ i = noT (at0 ρ i) := by
  unfold noOwn noT
  rw [at0_eq]
  cases h : ρ[i]? with
  | none => rfl
  | some o => cases o with
    | none => rfl
    | some sv => cases sv <;> rfl
theorem noT_none : noT none = true := (rfl)
theorem noT_sh (d : D) : noT (some (.sh d)) = true := (rfl)
theorem putC_nil (ρ : DEnv) : putC ρ [] = ρ := (rfl)
theorem putC_cons (ρ : DEnv) (s : Nat) (d : D) (l : List (Nat × D)) : putC ρ ((s, d) :: l) = putC (setC ρ s d) l := (rfl)
def ioLT (s : Option R) (d : D) (l : List (Nat × D)) : List (Nat × D) := match s with
  | some (.slot s) => (s, d) :: l
  | _ => l
theorem ioL_nil (rs : List R) (ds : List D) : ioL rs [] ds = [] := by cases ds <;> rfl
theorem ioL_cons (rs : List R) (i : Nat) (is : List Nat) (d : D) (ds : List D) : ioL rs (i :: is) (d :: ds) = ioLT (rs[i]?) d (ioL rs is ds) := by
  unfold ioLT
  rw [ioL]
  all_goals (cases rs[i]? with
    | none => rfl
    | some r => cases r <;> rfl)
theorem ioLT_slot (s : Nat) (d : D) (l : List (Nat × D)) : ioLT (some (.slot s)) d l = (s, d) :: l := (rfl)
theorem ioLT_fresh (x d : D) (l : List (Nat × D)) : ioLT (some (.fresh x)) d l = l := (rfl)
theorem argOk_nil (ios : List Nat) (k : Nat) : argOk ios k [] = true := (rfl)
theorem argOk_val (ios : List Nat) (k : Nat) (d : D) (rs : List R) : argOk ios k (.val d :: rs) = (!(decide (k ∈ ios)) && argOk ios (k + 1) rs) := (rfl)
theorem argOk_fresh (ios : List Nat) (k : Nat) (d : D) (rs : List R) : argOk ios k (.fresh d :: rs) = ((decide (k ∈ ios) && muD d) && argOk ios (k + 1) rs) := (rfl)
theorem argOk_slot (ios : List Nat) (k : Nat) (s : Nat) (rs : List R) : argOk ios k (.slot s :: rs) = ((decide (k ∈ ios) && rs.all fun r => match r with | .slot s' => decide (s ≠ s') | _ => true) && argOk ios (k + 1) rs) := (rfl)
/-- a call whose answer is known -/
theorem clT0_val {n : Nat} {G : GD} {rs : List R} {ρ : DEnv} {ds : List D} {d : D} (ha : argOk [] 0 rs = true) (hn : ds.length = n) (hG : G ds = some (.ok d, [])) : clT0 [] n G rs ρ (some ds) = some (.ok (.val d), ρ) := by
  rw [clT0_some, if_pos ⟨ha, hn, fun i hi => by cases hi⟩, hG, clT_ok, if_pos (by rfl), ioL_nil, putC_nil]
/-! ### numbers from nought on -/
def iN (i : Nat) : D := .int (i : Int)
def LN (p : List Nat) : D := .lst (p.map iN)
def TN (p : List Nat) : D := .tup (p.map iN)
def LLN (ps : List (List Nat)) : D := .lst (ps.map LN)
theorem rgD_nat (n : Nat) : rgD 0 (n : Int) = (List.range n).map iN := by
  unfold rgD
  rw [show ((n : Int) - 0).toNat = n from by omega]
  refine List.map_congr_left fun i _ => ?_
  rw [Int.zero_add]
  rfl
theorem rgOk_nat {n : Nat} (h : n ≤ 1000) : rgOk 0 (n : Int) = true := by
  unfold rgOk
  simp only [Bool.and_eq_true, decide_eq_true_eq]
  omega
theorem flat_iN (i : Nat) : flatD (iN i) = true := (rfl)
theorem all_flat (p : List Nat) : (p.map iN).all flatD = true := by
  rw [List.all_eq_true]
  intro d hd
  obtain ⟨i, _, rfl⟩ := List.mem_map.mp hd
  rfl
theorem deq_iN (i j : Nat) : deq (iN i) (iN j) = decide (i = j) := by
  unfold iN
  rw [deq_int]
  by_cases h : i = j
  · subst h; simp
  · have : ¬ ((i : Int) = (j : Int)) := by omega
    simp [h, this]
theorem find_iN (p : List Nat) (a : Nat) (h : a ∈ p) : (p.map iN).findIdx? (fun z => deq z (iN a)) = some (p.idxOf a) := by
  induction p with
  | nil => cases h
  | cons b p ih =>
    rw [List.map_cons, List.findIdx?_cons, deq_iN]
    by_cases e : b = a
    · subst e
      simp
    · rcases List.mem_cons.mp h with h | h
      · exact absurd h.symm e
      · rw [if_neg (by simpa using e), ih h]
        rw [List.idxOf_cons, show (b == a) = false from by simpa using e]
        rfl
theorem gIndexL_iN {p : List Nat} {a : Nat} (h : a ∈ p) : gIndexL (LN p) [iN a] = some (.val (iN (p.idxOf a))) := by
  unfold gIndexL LN
  simp only
  rw [if_pos ⟨flat_iN a, all_flat p⟩, find_iN p a h]
  rfl
theorem gIndexT_iN {p : List Nat} {a : Nat} (h : a ∈ p) : gIndexT (TN p) [iN a] = some (.val (iN (p.idxOf a))) := by
  unfold gIndexT TN
  simp only
  rw [if_pos ⟨flat_iN a, all_flat p⟩, find_iN p a h]
  rfl
theorem gIx_LN {p : List Nat} {i a : Nat} (h : p[i]? = some a) : gIx (LN p) (iN i) = some (.val (iN a)) := by
  unfold LN
  show (atI (p.map iN) (i : Int)).map R.val = _
  rw [atI_nat' (d := iN a) (by rw [List.getElem?_map, h]; rfl)]
  rfl
theorem gIx_TN {p : List Nat} {i a : Nat} (h : p[i]? = some a) : gIx (TN p) (iN i) = some (.val (iN a)) := by
  unfold TN
  show (atI (p.map iN) (i : Int)).map R.val = _
  rw [atI_nat' (d := iN a) (by rw [List.getElem?_map, h]; rfl)]
  rfl
theorem gIx_LLN {ps : List (List Nat)} {i : Nat} {a : List Nat} (h : ps[i]? = some a) : gIx (LLN ps) (iN i) = some (.val (LN a)) := by
  unfold LLN
  show (atI (ps.map LN) (i : Int)).map R.val = _
  rw [atI_nat' (d := LN a) (by rw [List.getElem?_map, h]; rfl)]
  rfl
theorem gLt_iN (i j : Nat) : gLt (iN i) (iN j) = some (.val (.bl (decide (i < j)))) := by
  unfold iN
  rw [gLt_int]
  by_cases h : i < j
  · have : (i : Int) < j := by omega
    simp [h, this]
  · have : ¬ (i : Int) < j := by omega
    simp [h, this]
theorem gLen_LN (p : List Nat) : gLen [LN p] = some (.val (iN p.length)) := by
  unfold LN
  rw [gLen_lst, List.length_map]
  rfl
theorem gLen_TN (p : List Nat) : gLen [TN p] = some (.val (iN p.length)) := by
  unfold TN
  rw [gLen_tup, List.length_map]
  rfl
theorem gLen_LLN (p : List (List Nat)) : gLen [LLN p] = some (.val (iN p.length)) := by
  unfold LLN
  rw [gLen_lst, List.length_map]
  rfl
theorem itR1_iN {n : Nat} (ρ : DEnv) (h : n ≤ 1000) : itR1T ρ (some [iN n]) = some (.ok ((List.range n).map iN), ρ) := by
  unfold iN
  rw [itR1T_int, if_pos (by omega), rgD_nat]
  rfl
theorem lrK_iN {n : Nat} (ρ : DEnv) (h : n ≤ 1000) : lrK (0, (n : Int)) ρ = some (.ok (.fresh (LN (List.range n))), ρ) := by
  rw [lrK_ap, if_pos (rgOk_nat h), rgD_nat]
  rfl
theorem rg1_iN (ρ : DEnv) (n : Nat) : rg1T ρ (some (iN n)) = some (.ok (0, (n : Int)), ρ) := (rfl)
theorem sz1000 {n : Nat} (h : n ≤ 1000) : n < sizeLine := Nat.lt_of_le_of_lt h (by decide)
theorem gAppend_LN {p : List Nat} {a : Nat} (h : p.length ≤ 1000) : gAppend (LN p) [iN a] = some (.non, LN (p ++ [a])) := by
  unfold gAppend LN
  simp only
  rw [if_pos (by rw [List.length_map]; exact sz1000 h), List.map_append]
  rfl
theorem erase_map {α β : Type} (f : α → β) : ∀ (p : List α) (i : Nat), (p.map f).eraseIdx i = (p.eraseIdx i).map f
  | [], _ => by simp
  | _ :: _, 0 => rfl
  | _ :: p, i + 1 => by simp [erase_map f p i]
theorem gPop_LN {p : List Nat} {i a : Nat} (hi : p[i]? = some a) (h : p.length ≤ 1000) : gPopAt (LN p) [iN i] = some (iN a, LN (p.eraseIdx i)) := by
  have hlt := (List.getElem?_eq_some_iff.mp hi).1
  unfold gPopAt LN iN
  simp only
  unfold ixN
  rw [if_pos (by omega), if_pos (by rw [List.length_map]; omega)]
  simp only
  rw [show ((i : Int)).toNat = i from by omega, List.getElem?_map, hi]
  simp only [Option.map_some]
  rw [if_pos (by rw [List.length_map]; exact Nat.le_of_lt (sz1000 h))]
  refine congrArg some (congrArg (Prod.mk _) (congrArg D.lst ?_))
  exact erase_map _ _ _
theorem mutT_LN (g : D → List D → Option (D × D)) (fa : M (List R)) (i : Nat) (ρ : DEnv) (p : List Nat) : mutT .list g fa i ρ (some (LN p)) = bT (fa ρ) (mutK2 g i) := (rfl)
theorem mtT_LN (g : D → List D → Option R) (fa : M (List R)) (x : R) (ρ : DEnv) (p : List Nat) : mtT .list g fa x ρ (some (LN p)) = bT (fa ρ) (mtK2 g x) := (rfl)
theorem mutT_lst (g : D → List D → Option (D × D)) (fa : M (List R)) (i : Nat) (ρ : DEnv) (p : List D) : mutT .list g fa i ρ (some (.lst p)) = bT (fa ρ) (mutK2 g i) := (rfl)
theorem mtT_lst (g : D → List D → Option R) (fa : M (List R)) (x : R) (ρ : DEnv) (p : List D) : mtT .list g fa x ρ (some (.lst p)) = bT (fa ρ) (mtK2 g x) := (rfl)
theorem erase_perm {α : Type} : ∀ (l : List α) (r : Nat) (h : r < l.length), (l[r] :: l.eraseIdx r).Perm l
  | [], r, h => absurd h (Nat.not_lt_zero _)
  | a :: l, 0, h => List.Perm.refl _
  | a :: l, r + 1, h => by
    have ih := erase_perm l r (by simpa using h)
    rw [List.getElem_cons_succ, List.eraseIdx_cons_succ]
    exact (List.Perm.swap _ _ _).trans (ih.cons a)
theorem LN_shp (p : List Nat) : shp (LN p) = true := by
  have := (okD_ints (p.map fun i : Nat => (i : Int))).shp
  rw [List.map_map] at this
  exact this
end L3

namespace L3
open PySem PySem.Spec PyProof.Rows L2
/-! ### the frame of a generator expression -/
abbrev gEnv (X : Cx) (scope : Scope) (C : Addr) (code : Value) : Env := genEnv scope (cloFrom X.env.cells scope.names []) C code builtinsNs X.env
/-- the context of its body -/
abbrev genCx (X : Cx) (s : Shared) (H : Hp) (scope : Scope) (C : Addr) (code : Value) (A : Around) (fp : List Addr) : Cx :=
  { X with s_0 := s, H_0 := H, env := gEnv X scope C code, outer := X.stack, stack := gEnv X scope C code :: X.stack, A := A, ex := fp, fn := fun _ => false, pn := [], xe := fun _ _ => False }
structure GenOk (X : Cx) (scope : Scope) (own : List (Str × Nat)) : Prop where
  blk : BlkOk X.N X.env.scope scope own
  co : scope.isCoroutine = false
  cell : ∀ y ∈ scope.names, y.2 ≠ .cell
  dot : scope.names.lookup (".0" : Str) = some NameKind.local
section
variable {X : Cx} {pins : List (Addr × Obj)} {σ : L2.St} {H : Hp} {s : Shared}
theorem GenOk.has {scope : Scope} {own : List (Str × Nat)} (S : GenOk X scope own) (ok : X.Ok) : ∀ y ∈ scope.names, y.2 = .free → ∃ c, X.env.cells.lookup y.1 = some c := fun y hy e => by
  rcases S.blk.free y hy e with k | k
  · exact ok.has _ (.inl k)
  · exact ok.has _ (.inr k)
theorem gen_start {scope : Scope} {own : List (Str × Nat)} {fp : List Addr} {A : Around} {code : Value} {s' : Shared} {m : Str → Option Value} (I : Inv X pins σ H s) (S : GenOk X scope own) (hN : X.N.Nodup) (hfp : ∀ b ∈ fp, FpOk X pins H b ∧ b < s.heap.objs.size)
    (hA : A.handled = none) (hfr : A.frames = some (gEnv X scope s.heap.objs.size code :: X.stack)) (os : s'.os = s.os) (hg : AllBare s'.gens) (kp : ∀ b o, s.heap.get? b = some o → s'.heap.get? b = some o) (hns : s'.heap.Ns s.heap.objs.size m) :
    Inv (genCx X s H scope s.heap.objs.size code A fp) [] (wipe σ (own.map (·.2))) H s' := by
  have hfree := S.has I.ok
  have cm : ∀ {y c}, (cloFrom X.env.cells scope.names []).lookup y = some c → X.env.cells.lookup y = some c := fun {y c} e => by
    rcases cloFrom_mem (PySem.mem_of_lookup e) with hm | ⟨h1, h2⟩
    · cases hm
    · obtain ⟨c1, hc⟩ := hfree _ h1 rfl
      have hc : X.env.cells.lookup y = some c1 := hc
      have e2 : c = c1 := by
        rw [h2, hc] <;> rfl
      rw [e2]
      exact hc
  have look : ∀ {y}, scope.names.lookup y = some .free → ∃ c, (cloFrom X.env.cells scope.names []).lookup y = some c := fun {y} hl => by
    have hy : (y, NameKind.free) ∈ scope.names := PySem.mem_of_lookup hl
    exact mem_lookup (cloFrom_has (cells := X.env.cells) (acc := []) hy)
  have ltc : ∀ {y c}, X.env.cells.lookup y = some c → c < s.heap.objs.size := fun {y c} e => by
    obtain ⟨w, z⟩ := I.cell _ _ e
    exact z.lt
  refine ⟨⟨I.ok.mod, S.blk.kind, I.ok.glob, rfl, Nat.le_refl _, fun y z c e1 e2 => I.ok.inj y z c (cm e1) (cm e2), fun y hy => ?_, fun y c z _ => ?_, fun _ => hA, hfr, .inr ⟨rfl, rfl⟩, fun b hb => ⟨?_, fun y c e z => ?_⟩, I.bs, Nat.le_trans I.ok.bsz I.sz, fun b o e hb => ?_,
      fun b hb z => ?_, I.stack, I.stkFree⟩,
    os, hg, Un.kept kp, ⟨m, hns, fun i y v e1 e2 e3 => ?_⟩, fun y c e => ?_, I.hok.fresh (Nat.le_refl _), fun y c e => I.freeC y c (cm e), fun q hq => absurd (show q ∈ ([] : List (Addr × Obj)) ++ [] from hq) (by simp), I.hok.kept kp, by rw [wipe_length]; exact I.len⟩
  · have hy : scope.names.lookup y = some .cell ∨ scope.names.lookup y = some .free := hy
    rcases hy with hy | hy
    · exact absurd rfl (S.cell _ (PySem.mem_of_lookup hy))
    · exact look hy
  · have z : false = true := z
    cases z
  · exact Nat.ne_of_lt (hfp b hb).2
  · exact (hfp b hb).1.2.2.2.2.1 y c (cm e) z
  · rcases (hfp b hb).1.2.2.2.1 with z | z
    · exact I.ok.noex b o e z
    · exact absurd (Nat.lt_of_lt_of_le (Heap.lt_size e) (Nat.le_trans I.ok.bsz z)) (Nat.lt_irrefl _)
  · rcases List.mem_cons.mp (I.stkSub b z) with z | z
    · exact (hfp b hb).1.2.1 z
    · exact (hfp b hb).1.2.2.1 z
  · obtain ⟨e2, hne⟩ := wipe_some e2
    have e3 : Vis scope y := e3
    have no : ¬ (scope.names.lookup y = some .local ∨ scope.names.lookup y = some .cell) := fun hh => by
      have key : ∀ k, scope.names.lookup y = some k → k = .local ∨ k = .cell → False := fun k hk hk' => by
        rcases S.blk.own _ (PySem.mem_of_lookup hk) hk' with e' | e'
        · obtain ⟨p, hp, hpy⟩ := List.mem_map.mp e'
          have e3 := S.blk.ix p hp
          have : p.1 = y := hpy
          rw [this] at e3
          exact hne (List.mem_map.mpr ⟨p, hp, nodup_ix hN e3 e1⟩)
        · exact e' (List.mem_of_getElem? e1)
      rcases hh with h | h
      · exact key _ h (.inl rfl)
      · exact key _ h (.inr rfl)
    rcases e3 with k | k | k
    · exact absurd (.inl k) no
    · exact absurd (.inr k) no
    · obtain ⟨m', hn, hl⟩ := I.loc
      have hvis : Vis X.env.scope y := (S.blk.free _ (PySem.mem_of_lookup k) rfl).elim (fun k => .inr (.inl k)) (fun k => .inr (.inr k))
      obtain ⟨w', r, q⟩ := hl i y v e1 e2 hvis
      obtain ⟨c2, h2⟩ := look k
      refine ⟨w', r, .inr ⟨.inr k, c2, h2, ?_⟩⟩
      have c1 := cm h2
      rcases q with ⟨k', _⟩ | ⟨_, c3, e', z⟩
      · have k' : X.env.scope.names.lookup y = some .local := k'
        rcases S.blk.free _ (PySem.mem_of_lookup k) rfl with k2 | k2 <;> rw [show X.env.scope.names.lookup y = _ from k2] at k' <;> cases k'
      · rw [c1] at e'
        cases e'
        obtain ⟨o, ho, hd⟩ := z
        exact ⟨o, kp _ _ ho, hd⟩
  · obtain ⟨w', o, ho, hd⟩ := I.cell y c (cm e)
    exact ⟨w', o, kp _ _ ho, hd⟩
end
end L3

namespace L3
open PySem PySem.Spec PyProof.Rows L2
theorem over_gen {A : Around} {elt : Expr} {gens : List Comprehension} {scope : Scope} {pos : Pos} {it acc : Value} {env : Env} : A.over (.compLoop (.GeneratorExp elt gens scope pos) 0 it acc env) [] = A.deeper env := by
  first
    | rfl
    | (obtain ⟨hd, d, fr, gs, u⟩ := A; simp [Around.over, Around.deeper, marksOver, frameCount, unitsOf, envsOf, guardsOf, pushEnvs, pushGuards, Code.envs, Code.env?, Code.isFrame, Code.guards, Code.isGuard, Code.weight, Code.frames, Code.isCreation, Code.isCaller, Code.cUnits])
theorem over_gen0 {A : Around} {elt : Expr} {gens : List Comprehension} {scope : Scope} {pos : Pos} {it acc : Value} {env : Env} : A.over (.compStart (.GeneratorExp elt gens scope pos) 0 it acc env) [] = A.deeper env := by
  first
    | rfl
    | (obtain ⟨hd, d, fr, gs, u⟩ := A; simp [Around.over, Around.deeper, marksOver, frameCount, unitsOf, envsOf, guardsOf, pushEnvs, pushGuards, Code.envs, Code.env?, Code.isFrame, Code.guards, Code.isGuard, Code.weight, Code.frames, Code.isCreation, Code.isCaller, Code.cUnits])
section
variable {β : Type} (W : β → Nat → Nat → Hp → Prop) (Fin : β → Hp → Prop) (Yd : β → (β → Hp → Prop) → V → Hp → Prop) (Pn : β → List (Addr × Obj) → Prop)
/-- the turns of a generator, as they are read -/
def Turns (J : It) (g : TG) (tt : TT) (te : TE) (vs : List Nat) (σ : L2.St) : Prop := ∀ b i m H, W b i m H →
  (J.stop i H ∧ Fin b H) ∨ (J.go i H ∧ ∃ Nx : β → Hp → Prop, (∀ b' H', Nx b' H' → ∃ m', m' < m ∧ W b' (i + 1) m' H') ∧ ∀ x H', J.yld i H x H' → g x (wipe σ vs) H' fun σ2 H2 => wipe σ2 vs = wipe σ vs ∧ tt σ2 H2 fun c H3 =>
    if c = true then te σ2 H3 fun y H4 => Yd b Nx y H4 else Nx b H3)
variable (Z : Cx) (a : Addr) (go : Obj) (σw : L2.St) (tn : Nat → Heap → Prop) (fp : List Addr)
/-- at rest ahead of turn i -/
def AtI (pl : List (Addr × Obj)) (i : Nat) (H : Hp) (s : Shared) : Prop := Inv Z ((a, go) :: pl) σw H s ∧ tn i s.heap ∧ ∀ q ∈ fp, H q = none
def GP : Nat → Shared → Shared → Prop := fun _ s₀ s => ∃ b pl H, Pn b pl ∧ (∀ p ∈ pl, s₀.heap.get? p.1 = some p.2) ∧ Inv Z ((a, go) :: pl) σw H s ∧ Fin b H
def GY2 : Protocol := fun n s₀ v s kap => ∃ b pl j x H Nx, Pn b pl ∧ (∀ p ∈ pl, s₀.heap.get? p.1 = some p.2) ∧ RelV x v ∧ AtI Z a go σw tn fp pl j H s ∧ Yd b Nx x H ∧ (∀ b' H', Nx b' H' → ∃ m', m' < n ∧ W b' j m' H') ∧
  ∀ s'' H'' m b' pl', m < n → W b' j m H'' → Pn b' pl' → AtI Z a go σw tn fp pl' j H'' s'' → kap (.send .none) s''
end
section
variable {β : Type} {W : β → Nat → Nat → Hp → Prop} {Fin : β → Hp → Prop} {Yd : β → (β → Hp → Prop) → V → Hp → Prop} {Pn : β → List (Addr × Obj) → Prop}
variable {X : Cx} {s4 : Shared} {H3 : Hp} {scope : Scope} {C : Addr} {code : Value} {fp : List Addr} {A1 : Around} {a it : Addr} {go : Obj} {J : It} {tn : Nat → Heap → Prop} {elt tg iter : Expr} {ifs : List Expr} {pos : Pos} {g : TG} {tt : TT} {te : TE} {vs : List Nat} {σ : L2.St}
theorem gseg (hc : X.calm = true) (T : Turn X.prog X.w X.K tg J fp it tn) (pg : PG (genCx X s4 H3 scope C code (A1.deeper (gEnv X scope C code)) fp) tg g) (pt : PTs (genCx X s4 H3 scope C code (A1.deeper (gEnv X scope C code)) fp) ifs tt)
    (pe : PE (genCx X s4 H3 scope C code (A1.deeper (gEnv X scope C code)) fp) elt te) (turns : Turns W Fin Yd J g tt te vs σ) (hco : scope.isCoroutine = false) (hPl : ∀ b pl, Pn b pl → ∀ p ∈ (a, go) :: pl, p.1 ∉ fp) :
    ∀ (n m i : Nat) (b : β) (s₀ s : Shared) (H : Hp) (pl : List (Addr × Obj)), m < n → W b i m H → Pn b pl → (∀ p ∈ pl, s₀.heap.get? p.1 = some p.2) → AtI (genCx X s4 H3 scope C code (A1.deeper (gEnv X scope C code)) fp) a go (wipe σ vs) tn fp pl i H s →
      Seg (model X.prog X.w) A1 (fun n s₀ r s₁ => r = .ok .next ∧ GP Fin Pn (genCx X s4 H3 scope C code (A1.deeper (gEnv X scope C code)) fp) a go (wipe σ vs) n s₀ s₁) (GY2 W Yd Pn (genCx X s4 H3 scope C code (A1.deeper (gEnv X scope C code)) fp) a go (wipe σ vs) tn fp) n s₀
        (.compLoop (.GeneratorExp elt [⟨tg, iter, ifs, 0⟩] scope pos) 0 (.ref it) .none (gEnv X scope C code)) ((model X.prog X.w).den (.compLoop (.GeneratorExp elt [⟨tg, iter, ifs, 0⟩] scope pos) 0 (.ref it) .none (gEnv X scope C code))) [] s := by
  intro n
  induction n using Nat.strongRecOn with
  | ind n ihn =>
  intro m
  induction m using Nat.strongRecOn with
  | ind m ih =>
  intro i b s₀ s H pl hmn w hPn h0 hAt
  obtain ⟨I5, st5, n5⟩ := hAt
  have hne := hPl b pl hPn
  have stat : ∀ {σ' : L2.St} {H' : Hp} {s' : Shared}, Inv (genCx X s4 H3 scope C code (A1.deeper (gEnv X scope C code)) fp) ((a, go) :: pl) σ' H' s' → (∀ b ∈ fp, H' b = none) → ∀ b ∈ fp, FpOk (genCx X s4 H3 scope C code (A1.deeper (gEnv X scope C code)) fp) ((a, go) :: pl) H' b := fun {σ' H' s'} I' hn b hb =>
    ⟨hn b hb, (I'.ok.exf b hb).1, I'.ok.exfs b hb, .inl hb, fun x c e => (I'.ok.exf b hb).2 x c e, fun p hp z => hne p hp (by rw [z]; exact hb)⟩
  show Seg _ A1 _ _ n s₀ _ ((compTurn (.GeneratorExp elt [⟨tg, iter, ifs, 0⟩] scope pos) 0 (.ref it) .none (gEnv X scope C code)).onRaise (leaving (gEnv X scope C code))) [] s
  rw [compTurn_gen, Sem.onRaise_eq_wrap]
  refine seg_bind_wrap (wpAny_standAt ?_)
  have hov : (A1.over (.compLoop (.GeneratorExp elt [⟨tg, iter, ifs, 0⟩] scope pos) 0 (.ref it) .none (gEnv X scope C code)) []) = A1.deeper (gEnv X scope C code) := over_gen
  rcases turns b i m H w with ⟨stop, fin⟩ | ⟨go', Nx, hNx, step⟩
  · refine seg_bind_wrap ?_
    rw [hov]
    refine thnF (T.done (genCx X s4 H3 scope C code (A1.deeper (gEnv X scope C code)) fp) rfl rfl rfl hc i ((a, go) :: pl) s (wipe σ vs) H (fun _ _ => False) I5 (stat I5 n5) st5 stop) fun r s6 ⟨hr, I6⟩ => ?_
    subst hr
    exact seg_end (.ok .next) ⟨rfl, b, pl, H, hPn, h0, I6, fin⟩
  · refine seg_bind_wrap ?_
    rw [hov]
    refine thnF (T.item (genCx X s4 H3 scope C code (A1.deeper (gEnv X scope C code)) fp) rfl rfl rfl hc i ((a, go) :: pl) s (wipe σ vs) H (fun _ _ => False) I5 (stat I5 n5) st5 go') fun r s6 ⟨u, hr, h6⟩ => ?_
    subst hr
    refine seg_bind_wrap ?_
    rw [hov]
    refine thnF h6 fun _ s7 ⟨x, H7, I7, r7, y7, st7, n7⟩ => ?_
    have I7' := I7.pinned (stat I7 n7) (T.obj _ _ st7)
    refine seg_bind_wrap ?_
    rw [hov]
    refine thnF (pg.run _ s7 _ H7 x u _ I7' r7 (step x H7 y7)) fun _ s8 ⟨σ8, H8, I8, hw8, q8⟩ => ?_
    refine seg_bind_wrap ?_
    rw [hov]
    refine thnF (pt.run _ s8 σ8 H8 _ I8 q8) fun c s9 ⟨H9, I9, q9⟩ => ?_
    -- back at rest
    have rest : ∀ {s' : Shared} {H' : Hp}, Inv (genCx X s4 H3 scope C code (A1.deeper (gEnv X scope C code)) fp) ((a, go) :: pl ++ pinsAt fp s7.heap) σ8 H' s' → AtI (genCx X s4 H3 scope C code (A1.deeper (gEnv X scope C code)) fp) a go (wipe σ vs) tn fp pl (i + 1) H' s' := fun {s' H'} I' => by
      have pin' : ∀ b ∈ fp, ∀ o, s7.heap.get? b = some o → s'.heap.get? b = some o ∧ H' b = none := fun b hb o e =>
        let z := I'.pin (b, o) (List.mem_append_right _ (List.mem_append_right _ (mem_pinsAt hb e)))
        ⟨z.1, z.2.1⟩
      have hl : (wipe σ vs).length = σ8.length := by rw [← hw8, wipe_length]
      refine ⟨(I'.unpinned (pins := (a, go) :: pl)).weak hl (fun j v e => ?_), T.keep _ _ _ st7 fun b hb o e => (pin' b hb o e).1, fun b hb => ?_⟩
      · rw [← hw8] at e
        exact (wipe_some e).1
      · obtain ⟨o, e, _⟩ := T.obj _ _ st7 b hb
        exact (pin' b hb o e).2
    cases c with
    | false =>
      simp only [Bool.false_eq_true, if_false] at q9 ⊢
      obtain ⟨m', hm, w'⟩ := hNx b H9 q9
      exact seg_again rfl (ih m' hm (i + 1) b s₀ s9 H9 pl (Nat.lt_trans hm hmn) w' hPn h0 (rest I9))
    | true =>
      simp only [if_true] at q9 ⊢
      have hy : ∀ v, yieldOut (gEnv X scope C code) v = yieldValue v := fun v => by simp only [yieldOut, genEnv, hco, Bool.false_eq_true, if_false]
      simp only [hy]
      rw [Sem.bind_eq_wrap', Sem.bind_eq_wrap', Sem.wrap_wrap, Sem.wrap_wrap]
      refine seg_wrap ?_
      rw [hov]
      refine thnF (pe.run _ s9 σ8 H9 _ I9 q9) fun z s10 ⟨yv, H10, I10, r10, q10⟩ => ?_
      obtain ⟨n', rfl⟩ : ∃ n', n = n' + 1 := ⟨n - 1, by omega⟩
      refine seg_at (seg_yield rfl rfl rfl ⟨b, pl, i + 1, yv, H10, Nx, hPn, h0, r10, rest I10, q10, fun b' H' nx => ?_, fun s'' H'' m'' b' pl' hm'' w'' hPn' hAt' => ?_⟩)
      · obtain ⟨m', hm, w'⟩ := hNx b' H' nx
        exact ⟨m', by omega, w'⟩
      · refine seg_again rfl (ihn n' (Nat.lt_succ_self n') m'' (i + 1) b' s'' s'' H'' pl' hm'' w'' hPn' (fun p hp => ?_) hAt')
        exact (hAt'.1.pin p (List.mem_append_right _ (List.mem_cons_of_mem _ hp))).1
end
end L3

namespace L3
open PySem PySem.Spec PyProof.Rows L2
theorem Inv.regen {X : Cx} {pins : List (Addr × Obj)} {σ : L2.St} {H : Hp} {s : Shared} (I : Inv X pins σ H s) {g' : Array GenState} (h : AllBare g') : Inv X pins σ H { s with gens := g' } :=
  ⟨I.ok, I.os, h, I.base, I.loc, I.cell, I.free, I.freeC, I.pin, I.hok, I.len⟩
section
variable {β : Type} {W : β → Nat → Nat → Hp → Prop} {Fin : β → Hp → Prop} {Yd : β → (β → Hp → Prop) → V → Hp → Prop} {Pn : β → List (Addr × Obj) → Prop}
section
variable (W Fin Yd Pn) (Z : Cx) (A1 : Around) (a : Addr) (go : Obj) (gn : Nat) (σw : L2.St) (tn : Nat → Heap → Prop) (fp : List Addr)
/-- the generator sleeps ahead of turn j -/
def Sus (n j : Nat) (s : Shared) : Prop := ∃ gs, s.gens[gn]? = some gs ∧ ∀ s'' H'' m b pl, m < n → W b j m H'' → Pn b pl → AtI Z a go σw tn fp pl j H'' s'' →
  gs.Goes (model Z.prog Z.w) A1 (fun n s₀ r s₁ => r = .ok .next ∧ GP Fin Pn Z a go σw n s₀ s₁) (GY2 W Yd Pn Z a go σw tn fp) n (.send .none) s''
end
variable {Z : Cx} {A0 : Around} {a : Addr} {go : Obj} {gn : Nat} {σw : L2.St} {tn : Nat → Heap → Prop} {fp : List Addr}
theorem gen_next {n m j : Nat} {b : β} {pl : List (Addr × Obj)} {H : Hp} {s : Shared} {Q : Option Value → Shared → Prop} {E : Value → Shared → Prop} (hh : A0.handled = none) (hroom : A0.depth < recursionLimit) (hgo : ∀ h : Heap, h.get? a = some go → h.IsGen a gn)
    (hU : ∀ b b' pl pl' (h : Heap), Pn b pl → Pn b' pl' → (∀ p ∈ pl, h.get? p.1 = some p.2) → (∀ p ∈ pl', h.get? p.1 = some p.2) → b = b' ∧ pl = pl')
    (hmn : m < n) (w : W b j m H) (hPn : Pn b pl) (hAt : AtI Z a go σw tn fp pl j H s) (hs : Sus W Fin Yd Pn Z A0.in1 a go gn σw tn fp n j s)
    (hF : ∀ H' s', Inv Z ((a, go) :: pl) σw H' s' → Fin b H' → Q none s')
    (hY : ∀ n' v x j' H' Nx s', n = n' + 1 → RelV x v → AtI Z a go σw tn fp pl j' H' s' → Yd b Nx x H' → (∀ b' H'', Nx b' H'' → ∃ m', m' < n' ∧ W b' j' m' H'') → Sus W Fin Yd Pn Z A0.in1 a go gn σw tn fp n' j' s' → Q (some v) s') :
    wpAny (model Z.prog Z.w) A0 (pyNext (.ref a)) Q E s := by
  obtain ⟨gs, hgs, hgo'⟩ := hs
  obtain ⟨I, st, fn⟩ := hAt
  have hp := I.pin (a, go) (List.mem_append_right _ List.mem_cons_self)
  have pinS : ∀ p ∈ pl, s.heap.get? p.1 = some p.2 := fun p hm => (I.pin p (List.mem_append_right _ (List.mem_cons_of_mem _ hm))).1
  have Ir : Inv Z ((a, go) :: pl) σw H (s.setGen gn .running) := Inv.regen I (allBare_setGen I.bare rfl)
  refine GenW.wpAny_gsz (n := s.gens.size) (Nat.le_refl _) (wpAny_pyNext_genexpQ (P := GP Fin Pn Z a go σw) hh I.nolimit hroom (hgo _ hp.1) hgs (hgo' _ H m b pl hmn w hPn ⟨Ir, st, fn⟩) (fun v s₁ gs' hb hv => ?_) (fun s₁ hp h' hk => ?_))
  · intro hsz
    obtain ⟨b', pl', j', x, H', Nx, hPn', h0, rv, hAt', hyd, hnx, hkap⟩ := hv
    obtain ⟨rfl, rfl⟩ := hU b b' pl pl' s.heap hPn hPn' pinS h0
    obtain ⟨I', st', fn'⟩ := hAt'
    cases n with
    | zero => exact absurd hmn (Nat.not_lt_zero _)
    | succ n' =>
      refine hY n' v x j' H' Nx _ rfl rv ⟨Inv.regen I' (allBare_setGen I'.bare hb), st', fn'⟩ hyd hnx ⟨gs', ?_, fun s'' H'' m'' b'' pl'' hm w'' hP'' hA'' => hkap s'' H'' m'' b'' pl'' hm w'' hP'' hA''⟩
      have hlt : gn < s.gens.size := by
        rcases Nat.lt_or_ge gn s.gens.size with h' | h'
        · exact h'
        · rw [Array.getElem?_eq_none h'] at hgs; cases hgs
      have h2 : (s₁.setGen gn gs').gens.size = s₁.gens.size := GenW.setGen_size s₁ gn gs'
      rw [h2] at hsz
      have hlt' : gn < s₁.gens.size := Nat.lt_of_lt_of_le hlt hsz
      simp [Shared.setGen, hlt']
  · intro _
    obtain ⟨b', pl', H', hPn', h0, I', fin⟩ := hp
    obtain ⟨rfl, rfl⟩ := hU b b' pl pl' s.heap hPn hPn' pinS h0
    have I2 := Inv.regen I' (g' := (s₁.setGen gn .finished).gens) (allBare_setGen I'.bare rfl)
    exact hF H' _ (I2.kept (t' := s₁.toks) hk) fin
end
section
variable {β : Type} {W : β → Nat → Nat → Hp → Prop} {Fin : β → Hp → Prop} {Yd : β → (β → Hp → Prop) → V → Hp → Prop} {Pn : β → List (Addr × Obj) → Prop}
variable {X : Cx} {s4 : Shared} {H3 : Hp} {scope : Scope} {C : Addr} {code : Value} {fp : List Addr} {A1 : Around} {a it : Addr} {go : Obj} {J : It} {tn : Nat → Heap → Prop} {elt tg iter : Expr} {ifs : List Expr} {pos : Pos} {g : TG} {tt : TT} {te : TE} {vs : List Nat} {σ : L2.St}
theorem gstart {gn n : Nat} {s : Shared} (hc : X.calm = true) (T : Turn X.prog X.w X.K tg J fp it tn) (pg : PG (genCx X s4 H3 scope C code (A1.deeper (gEnv X scope C code)) fp) tg g) (pt : PTs (genCx X s4 H3 scope C code (A1.deeper (gEnv X scope C code)) fp) ifs tt)
    (pe : PE (genCx X s4 H3 scope C code (A1.deeper (gEnv X scope C code)) fp) elt te) (turns : Turns W Fin Yd J g tt te vs σ) (hco : scope.isCoroutine = false) (hPl : ∀ b pl, Pn b pl → ∀ p ∈ (a, go) :: pl, p.1 ∉ fp)
    (hgs : s.gens[gn]? = some (.fresh (.compStart (.GeneratorExp elt [⟨tg, iter, ifs, 0⟩] scope pos) 0 (.ref it) .none (gEnv X scope C code)))) :
    Sus W Fin Yd Pn (genCx X s4 H3 scope C code (A1.deeper (gEnv X scope C code)) fp) A1 a go gn (wipe σ vs) tn fp n 0 s := by
  refine ⟨_, hgs, fun s'' H'' m b pl hmn w hPn hAt => ⟨rfl, ?_⟩⟩
  have pinS : ∀ p ∈ pl, s''.heap.get? p.1 = some p.2 := fun p hm => (hAt.1.pin p (List.mem_append_right _ (List.mem_cons_of_mem _ hm))).1
  have loop := gseg (iter := iter) (pos := pos) hc T pg pt pe turns hco hPl n m 0 b s'' s'' H'' pl hmn w hPn pinS hAt
  show Seg _ A1 _ _ n s'' _ ((compStart (.GeneratorExp elt [⟨tg, iter, ifs, 0⟩] scope pos) 0 (.ref it) .none (gEnv X scope C code)).onRaise (leaving (gEnv X scope C code))) [] s''
  unfold compStart
  rw [Sem.onRaise_eq_wrap]
  show Seg _ A1 _ _ n s'' _ ((ask >>= _).wrap _ _ _ _) [] s''
  refine seg_bind_wrap (wpAny_askSetting ?_)
  split
  · exact seg_again rfl loop
  · refine seg_bind_wrap (wpAny_rule ?_)
    show Seg _ A1 _ _ n s'' _ ((standAt iter.pos >>= _).wrap _ _ _ _) [] s''
    exact seg_bind_wrap (wpAny_standAt (seg_bind_wrap (T.self _ 0 s'' _ _ hAt.2.1 (seg_again rfl loop))))
end
end L3

namespace L3
open PySem PySem.Spec PyProof.Rows L2
/-- a code object is asked for at a place of the table at P: it was there, or is new -/
inductive GrowT (P : Addr) (nm : Str) (pos : Pos) (H1 H2 : Hp) (c' P' : Addr) : Prop
  | hit : H2 = H1 → (∃ nm', H1 c' = some (CodeT c' P' nm')) → TabOk H1 none P' → GrowT P nm pos H1 H2 c' P'
  | new (ps : Array Value) : H1 P = some (.tbl ps) → H1 c' = none → H1 P' = none → c' ≠ P' → H2 = grown H1 P c' P' (ps ++ #[rawInt pos.line, rawInt pos.col, .ref c']) nm → GrowT P nm pos H1 H2 c' P'
theorem GrowT.tab {P : Addr} {nm : Str} {pos : Pos} {H1 H2 : Hp} {c' P' : Addr} (g : GrowT P nm pos H1 H2 c' P') {f : NmF} {Q : Addr} (t : TabOk H1 f Q) (hn : ∀ g, f = some g → Q = P → nm = g pos.line pos.col) : TabOk H2 f Q := by
  cases g with
  | hit e _ _ => rw [e]; exact t
  | new ps h1 h2 h3 h4 e => rw [e]; exact tab_grown h1 h2 h3 h4 t hn
theorem GrowT.code {P : Addr} {nm : Str} {pos : Pos} {H1 H2 : Hp} {c' P' : Addr} (g : GrowT P nm pos H1 H2 c' P') : ∃ nm', H2 c' = some (CodeT c' P' nm') := by
  cases g with
  | hit e h _ => rw [e]; exact h
  | new ps h1 h2 h3 h4 e => exact ⟨nm, by rw [e]; unfold grown; rw [upd_ne h4, upd_same]⟩
theorem GrowT.tabN {P : Addr} {nm : Str} {pos : Pos} {H1 H2 : Hp} {c' P' : Addr} (g : GrowT P nm pos H1 H2 c' P') : TabOk H2 none P' := by
  cases g with
  | hit e _ h => rw [e]; exact h
  | new ps h1 h2 h3 h4 e => exact .nil (by rw [e]; unfold grown; rw [upd_same])
theorem GrowT.keep {P : Addr} {nm : Str} {pos : Pos} {H1 H2 : Hp} {c' P' : Addr} (g : GrowT P nm pos H1 H2 c' P') {a : Addr} {o : HO} (e : H1 a = some o) (h : ∀ ps, o ≠ .tbl ps) : H2 a = some o := by
  cases g with
  | hit e' _ _ => rw [e']; exact e
  | new ps h1 h2 h3 h4 e' =>
    rw [e']
    refine grown_same h1 h2 h3 a o e fun z => ?_
    rw [z, h1] at e
    exact h ps (Option.some.inj e).symm
theorem GrowT.tbl {P : Addr} {nm : Str} {pos : Pos} {H1 H2 : Hp} {c' P' : Addr} (g : GrowT P nm pos H1 H2 c' P') {a : Addr} {qs : Array Value} (e : H1 a = some (.tbl qs)) : ∃ ps, H2 a = some (.tbl ps) := by
  cases g with
  | hit e' _ _ => rw [e']; exact ⟨_, e⟩
  | new ps h1 h2 h3 h4 e' =>
    rw [e']
    by_cases h : a = P
    · exact ⟨_, by unfold grown; rw [h, upd_ne (ne_of_none h1 h3), upd_ne (ne_of_none h1 h2), upd_same]⟩
    · exact ⟨_, grown_same h1 h2 h3 a _ e h⟩
/-- whence code objects are made -/
def MkSrc (X : Cx) (MkR : Hp → Prop) (c P : Addr) : Prop := X.env.code = .ref c ∧ ∀ pins σ H s, Inv X pins σ H s → MkR H → PySem.W.CodeHd s.heap c P ∧ s.heap.BuiltinsAt X.mg P ∧ mainGlobals ≠ P
theorem mkSrc_static {X : Cx} {c P : Addr} (hc : X.env.code = .ref c) (TB : LamX.TabB X.base X.mg c P) : MkSrc X (fun _ => True) c P :=
  ⟨hc, fun pins σ H s I _ => ⟨TB.code.keeps I.bk, TB.bm.keeps I.bk, TB.gP⟩⟩
def MkDyn (c P : Addr) (H : Hp) : Prop := ∃ nm ps, H c = some (CodeT c P nm) ∧ H P = some (.tbl ps)
theorem mkSrc_dyn {X : Cx} {c P c0 P0 : Addr} (hc : X.env.code = .ref c) (TB : LamX.TabB X.base X.mg c0 P0) : MkSrc X (MkDyn c P) c P := by
  refine ⟨hc, fun pins σ H s I h => ?_⟩
  obtain ⟨nm, ps, h1, h2⟩ := h
  obtain ⟨⟨cd, _⟩, _, _⟩ := I.hok _ _ h1
  have nb : ∀ b o, X.base.get? b = some o → b ≠ P := fun b o e z => by
    have q := (I.bs b o e).2
    rw [z, h2] at q
    cases q
  obtain ⟨bm, ob, e1, e2, e3, e4, e5, e6, e7, e8⟩ := TB.bm
  obtain ⟨og, es, ep, eg, _⟩ := I.mod.glob
  exact ⟨cd, ⟨bm, ob, e1, e2, e3, nb _ _ e5, I.bk _ _ e5, e6, e7, e8⟩, nb _ _ eg⟩
/-- a generator has been made -/
structure GMk (X : Cx) (pins : List (Addr × Obj)) (σ : L2.St) (H2 : Hp) (s4 s5 : Shared) (scope : Scope) (c' a gn it : Addr) (go : Obj) (fp : List Addr) (tn : Nat → Heap → Prop) (J : It) (tg : Expr) (e : Expr) : Prop where
  I4 : Inv X pins σ H2 s4
  T : Turn X.prog X.w X.K tg J fp it tn
  st : tn 0 s5.heap
  f4 : ∀ b ∈ fp, FpOk X pins H2 b ∧ b < s4.heap.objs.size
  os : s5.os = s4.os
  bare : AllBare s5.gens
  kp : ∀ b o, s4.heap.get? b = some o → s5.heap.get? b = some o
  ns : ∃ m, s5.heap.Ns s4.heap.objs.size m
  ag : s5.heap.get? a = some go
  lt : s4.heap.objs.size < a
  isg : ∀ h : Heap, h.get? a = some go → h.IsGen a gn
  ncl : ∀ v, go.data ≠ .cell v
  gs : s5.gens[gn]? = some (.fresh (.compStart e 0 (.ref it) .none (gEnv X scope s4.heap.objs.size (.ref c'))))
section
variable {X : Cx} {pins : List (Addr × Obj)} {σ : L2.St} {H : Hp} {s : Shared}
theorem gx_make {c P : Addr} {f : NmF} {elt tg iter : Expr} {ifs : List Expr} {scope : Scope} {pos : Pos} {own : List (Str × Nat)} {wi : TI} {k : Nat} {MkR : Hp → Prop} {K : It → Hp → Addr → Addr → Prop} {Q' : Value → Shared → Prop}
    (hr : Room k X.A) (I : Inv X pins σ H s) (hi : PI X tg iter wi) (S : GenOk X scope own) (hM : MkSrc X MkR c P) (hs : ∀ v, genFold iter X.env v = pure v)
    (h : wi σ H fun J H1 => MkR H1 ∧ TabOk H1 f P ∧ ∀ H2 c' P', GrowT P (X.env.qual ++ "<genexpr>") pos H1 H2 c' P' → K J H2 c' P')
    (hQ : ∀ J H2 c' P' s4 s5 a gn it go fp tn, GMk X pins σ H2 s4 s5 scope c' a gn it go fp tn J tg (.GeneratorExp elt [⟨tg, iter, ifs, 0⟩] scope pos) → K J H2 c' P' → Q' (.ref a) s5) :
    wpAny (model X.prog X.w) X.A (eval (.GeneratorExp elt [⟨tg, iter, ifs, 0⟩] scope pos) X.env) Q' X.xe s := by
  refine wpAny_GeneratorExp_make S.co (closure_ok (S.has I.ok)) S.cell S.dot S.blk.kind hr.depth ?_ hs
  refine thn (hi.run pins s σ H _ I h) fun xv s1 h1 => thn h1 fun itv s2 h2 => ?_
  obtain ⟨it, fp, tn, J, H1, e, I2, T, st2, f2, hmk, tb, hK⟩ := h2
  subst e
  refine ⟨I2.nolimit, ?_⟩
  obtain ⟨cd, bm, hgP⟩ := hM.2 pins σ H1 s2 I2 hmk
  obtain ⟨cf, pf, nf, hP, ht, hcs, hrs⟩ := tb
  rename_i ps
  have hPs : s2.heap.get? P = some { cls := .none, data := .fields ps } := I2.hok P _ hP
  have sz2 : ∀ b ∈ fp, b < s2.heap.objs.size := fun b hb => by
    obtain ⟨o, e, _⟩ := T.obj _ _ st2 b hb
    exact Heap.lt_size e
  -- once the code object is there
  have cont : ∀ (c' P' : Addr) (H2 : Hp) (s4 : Shared), Inv X pins σ H2 s4 → GrowT P (X.env.qual ++ "<genexpr>") pos H1 H2 c' P' → (∀ b o, b ≠ P → s2.heap.get? b = some o → s4.heap.get? b = some o) → s2.heap.objs.size ≤ s4.heap.objs.size → (∀ b ∈ fp, H2 b = none) →
      wpAny (model X.prog X.w) X.A (builtinsFor X.env.globals X.env.builtins) (fun bi s₄ =>
        ∀ h', h'.Ns s₄.heap.objs.size (fun y => if y = ".0" then some (.ref it) else none) → Heap.SameBut s₄.heap.objs.size (s₄.heap.push { cls := .type "frame", data := .dict #[] }) h' →
          Q' (.ref h'.objs.size) { s₄ with
            gens := s₄.gens.push (.fresh (.compStart (.GeneratorExp elt [⟨tg, iter, ifs, 0⟩] scope pos) 0 (.ref it) .none (genEnv scope (cloFrom X.env.cells scope.names []) s₄.heap.objs.size (.ref c') bi X.env))),
            toks := s₄.toks + 1 + 1 + 1,
            heap := h'.push { cls := .type "generator", data := .fields #[.int s₄.gens.size 0, .str "<genexpr>" (s₄.toks + 1), .str (X.env.qual ++ "<genexpr>") (s₄.toks + 1 + 1)] } }) X.xe s4 := by
    intro c' P' H2 s4 I4 gr k4 hsz fpn
    obtain ⟨bma, ob, e1, e2, e3, e4, e5, e6, e7, e8⟩ := bm
    refine wpAny_builtinsFor (m := X.mg) (by rw [I4.ok.glob]; exact I4.mod.glob.keeps I4.bk) e1 e2 (k4 _ _ e4 e5) e6 e7 e8 ?_
    intro h' hn' hs'
    have hsz5 : h'.objs.size = s4.heap.objs.size + 1 := by rw [hs'.1, Heap.size_push]
    have kp' : ∀ b o, s4.heap.get? b = some o → h'.get? b = some o := fun b o e => hs'.extBut b o (Nat.ne_of_lt (Heap.lt_size e)) (Heap.get?_push_of_some _ e)
    have kp5 : ∀ (og : Obj) b o, s4.heap.get? b = some o → (h'.push og).get? b = some o := fun og b o e => Heap.get?_push_of_some _ (kp' b o e)
    have nP : ∀ b ∈ fp, b ≠ P := fun b hb z => by
      have h0 := (f2 b hb).1
      rw [z, hP] at h0; cases h0
    refine hQ J H2 c' P' s4 _ h'.objs.size s4.gens.size it _ fp tn ⟨I4, T, ?_, fun b hb => ⟨?_, Nat.lt_of_lt_of_le (sz2 b hb) hsz⟩, rfl, ?_, kp5 _, ⟨_, hn'.push _⟩, Heap.get?_push_size _ rfl, by omega, fun h e => ⟨_, _, _, e, rfl, rfl, rfl⟩, (fun v z => by cases z), Array.getElem?_push_size ..⟩ (hK H2 c' P' gr)
    · exact T.keep _ _ _ st2 fun b hb o e => kp5 _ b o (k4 b o (nP b hb) e)
    · exact ⟨fpn b hb, (f2 b hb).2⟩
    · intro y hy
      rcases Array.mem_push.mp hy with z | z
      · exact I4.bare y z
      · rw [z]; rfl
  cases hf : codeAmong pos ps.toList with
  | none =>
    refine wpAny_genexprCodeX hM.1 (cd.code hPs ht) (cd.tab hPs) hf fun c' h' tk hx hge hlt _ hrec' htab' hnew => ?_
    obtain ⟨P', hge', isC, tabP⟩ := hnew
    have hne : c' ≠ P' := by
      obtain ⟨_, _, _, _, _, _, _, _, _, _, _, _, _, _, _, _, _, _, _, _, z⟩ := isC
      exact z
    have cp : CodeP c' P' (X.env.qual ++ "<genexpr>") h' := by
      obtain ⟨c2, oc, vs, t, e2, r⟩ := hrec'
      cases e2
      exact ⟨PySem.W.CodeHd.of isC tabP, oc, vs, t, r⟩
    have nC : H1 c' = none := I2.hok.fresh hge
    have nQ : H1 P' = none := I2.hok.fresh hge'
    have I4 := inv_grow (t' := tk) (g' := s2.gens) I2 hP (fun b o hb e => hx b o hb e) htab'.2 hge cp hge' hne tabP.2 I2.bare
    refine cont c' P' _ _ I4 (.new ps hP nC nQ hne rfl) (fun b o hb e => hx b o hb e) (Nat.le_trans hge (Nat.le_of_lt hlt)) fun b hb => ?_
    have l := sz2 b hb
    unfold grown
    rw [upd_ne (Nat.ne_of_lt (Nat.lt_of_lt_of_le l hge')), upd_ne (Nat.ne_of_lt (Nat.lt_of_lt_of_le l hge)), upd_ne (fun z => by
      have h0 := (f2 b hb).1
      rw [z, hP] at h0; cases h0)]
    exact (f2 b hb).1
  | some cv =>
    refine wpAny_genexprCode_hit hM.1 (cd.code hPs ht) hf ?_
    obtain ⟨ec, hcc, _⟩ := hcs pos cv hf
    subst ec
    exact cont (cf pos) (pf pos) H1 s2 I2 (.hit rfl ⟨_, hcc⟩ (hrs pos _ hf)) (fun b o _ e => e) (Nat.le_refl _) fun b hb => (f2 b hb).1
end
end L3

namespace L3
open PySem PySem.Spec PyProof.Rows L2
abbrev YdAny (Q : VK) : Unit → (Unit → Hp → Prop) → V → Hp → Prop := fun _ Nx y H => ∃ c, y = .bl c ∧ if c = true then Q (.bl true) H else Nx () H
abbrev YdAll (Q : VK) : Unit → (Unit → Hp → Prop) → V → Hp → Prop := fun _ Nx y H => ∃ c, y = .bl c ∧ if c = true then Nx () H else Q (.bl false) H
abbrev PnU : Unit → List (Addr × Obj) → Prop := fun _ pl => pl = []
theorem pnU : ∀ (b b' : Unit) (pl pl' : List (Addr × Obj)) (h : Heap), PnU b pl → PnU b' pl' → (∀ p ∈ pl, h.get? p.1 = some p.2) → (∀ p ∈ pl', h.get? p.1 = some p.2) → b = b' ∧ pl = pl' := fun b b' pl pl' h e1 e2 _ _ => ⟨rfl, by rw [show pl = [] from e1, show pl' = [] from e2]⟩
section
variable {W : Unit → Nat → Nat → Hp → Prop} {Z : Cx} {A : Around} {a : Addr} {go : Obj} {gn : Nat} {σw : L2.St} {tn : Nat → Heap → Prop} {fp : List Addr} {Q : VK} {R : Result → Shared → Prop}
theorem any_loop (hh : A.handled = none) (hroom : A.in1.depth < recursionLimit) (hgo : ∀ h : Heap, h.get? a = some go → h.IsGen a gn)
    (fin : ∀ (c : Bool) H' s', Inv Z [(a, go)] σw H' s' → Q (.bl c) H' → R (.ok (.ret (.bool c))) s') :
    ∀ (n m j : Nat) (H : Hp) (s : Shared), m < n → W () j m H → AtI Z a go σw tn fp [] j H s → Sus W (fun _ H => Q (.bl false) H) (YdAny Q) PnU Z A.in1.in1 a go gn σw tn fp n j s →
      codeAny (model Z.prog Z.w) A (.builtin "any.loop" ⟨[.ref a], []⟩) R s := by
  intro n
  induction n with
  | zero => intro m j H s h; exact absurd h (Nat.not_lt_zero _)
  | succ n ih =>
    intro m j H s hmn w hAt hS
    refine codeAny_builtin F.entry_any_loop ?_
    rw [Around.under_plainId F.plain_any_loop _]
    show wpAny _ A.in1 (pyNext (.ref a) >>= _) _ _ s
    refine wpAny_bind (gen_next (A0 := A.in1) hh hroom hgo pnU hmn w rfl hAt hS (fun H' s' I' q => ?_) fun n' v x j' H' Nx s' en rv hAt' hyd hnx hS' => ?_)
    · refine wpAny_bind (wpAny_rule (wpAny_pure ?_))
      exact fin false H' s' I' q
    · obtain ⟨c, rfl, hq⟩ := hyd
      obtain rfl : v = Value.bool c := rv
      refine wpAny_bind (wpAny_holding (wpAny_truthy_bool ?_))
      refine wpAny_bind (wpAny_letGo ?_)
      cases en
      cases c with
      | false =>
        simp only [Bool.false_eq_true, if_false] at hq ⊢
        obtain ⟨m', hm, w'⟩ := hnx () H' hq
        exact wpAny_pure ⟨plainId_quiet F.plain_any_loop _, ih m' j' H' s' hm w' hAt' hS'⟩
      | true =>
        simp only [if_true] at hq ⊢
        refine wpAny_bind (wpAny_rule (wpAny_pure ?_))
        exact fin true H' s' hAt'.1 hq
theorem all_loop (hh : A.handled = none) (hroom : A.in1.depth < recursionLimit) (hgo : ∀ h : Heap, h.get? a = some go → h.IsGen a gn)
    (fin : ∀ (c : Bool) H' s', Inv Z [(a, go)] σw H' s' → Q (.bl c) H' → R (.ok (.ret (.bool c))) s') :
    ∀ (n m j : Nat) (H : Hp) (s : Shared), m < n → W () j m H → AtI Z a go σw tn fp [] j H s → Sus W (fun _ H => Q (.bl true) H) (YdAll Q) PnU Z A.in1.in1 a go gn σw tn fp n j s →
      codeAny (model Z.prog Z.w) A (.builtin "all.loop" ⟨[.ref a], []⟩) R s := by
  intro n
  induction n with
  | zero => intro m j H s h; exact absurd h (Nat.not_lt_zero _)
  | succ n ih =>
    intro m j H s hmn w hAt hS
    refine codeAny_builtin F.entry_all_loop ?_
    rw [Around.under_plainId F.plain_all_loop _]
    show wpAny _ A.in1 (pyNext (.ref a) >>= _) _ _ s
    refine wpAny_bind (gen_next (A0 := A.in1) hh hroom hgo pnU hmn w rfl hAt hS (fun H' s' I' q => ?_) fun n' v x j' H' Nx s' en rv hAt' hyd hnx hS' => ?_)
    · refine wpAny_bind (wpAny_rule (wpAny_pure ?_))
      exact fin true H' s' I' q
    · obtain ⟨c, rfl, hq⟩ := hyd
      obtain rfl : v = Value.bool c := rv
      refine wpAny_bind (wpAny_holding (wpAny_truthy_bool ?_))
      refine wpAny_bind (wpAny_letGo ?_)
      cases en
      cases c with
      | true =>
        simp only [if_true] at hq ⊢
        obtain ⟨m', hm, w'⟩ := hnx () H' hq
        exact wpAny_pure ⟨plainId_quiet F.plain_all_loop _, ih m' j' H' s' hm w' hAt' hS'⟩
      | false =>
        simp only [Bool.false_eq_true, if_false] at hq ⊢
        refine wpAny_bind (wpAny_rule (wpAny_pure ?_))
        exact fin false H' s' hAt'.1 hq
end
/-- back among the names of the def -/
theorem GMk.back {X : Cx} {pins : List (Addr × Obj)} {σ σ' : L2.St} {H2 H' : Hp} {s4 s5 s' : Shared} {scope : Scope} {c' a gn it : Addr} {go : Obj} {fp : List Addr} {tn : Nat → Heap → Prop} {J : It} {tg e : Expr} {A : Around} {pl : List (Addr × Obj)}
    (G : GMk X pins σ H2 s4 s5 scope c' a gn it go fp tn J tg e) (I : Inv (genCx X s4 H2 scope s4.heap.objs.size (.ref c') A fp) pl σ' H' s') : Inv X pins σ H' s' :=
  G.I4.call' (ch := fp) I.os I.base I.hok I.bare fun b hb => ⟨(G.f4 b hb).1.2.2.2.1, (G.f4 b hb).1.2.1, (G.f4 b hb).1.2.2.2.2.1, (G.f4 b hb).1.2.2.2.2.2⟩
theorem GMk.start {X : Cx} {pins : List (Addr × Obj)} {σ : L2.St} {H2 : Hp} {s4 s5 : Shared} {scope : Scope} {c' a gn it : Addr} {go : Obj} {fp : List Addr} {tn : Nat → Heap → Prop} {J : It} {tg e : Expr} {A : Around} {own : List (Str × Nat)}
    (G : GMk X pins σ H2 s4 s5 scope c' a gn it go fp tn J tg e) (S : GenOk X scope own) (hN : X.N.Nodup) (hA : A.handled = none) (hfr : A.frames = some X.stack) :
    AtI (genCx X s4 H2 scope s4.heap.objs.size (.ref c') (A.deeper (gEnv X scope s4.heap.objs.size (.ref c'))) fp) a go (wipe σ (own.map (·.2))) tn fp [] 0 H2 s5 := by
  obtain ⟨m, hns⟩ := G.ns
  have I5 : Inv (genCx X s4 H2 scope s4.heap.objs.size (.ref c') (A.deeper (gEnv X scope s4.heap.objs.size (.ref c'))) fp) [] (wipe σ (own.map (·.2))) H2 s5 :=
    gen_start G.I4 S hN G.f4 hA (Around.frames_deeper hfr) G.os G.bare G.kp hns
  refine ⟨I5.pins_of fun p hp => ?_, G.st, fun b hb => (G.f4 b hb).1.1⟩
  rw [List.mem_singleton.mp hp]
  have hge : s4.heap.objs.size ≤ a := Nat.le_of_lt G.lt
  refine ⟨G.ag, G.I4.hok.fresh hge, Nat.ne_of_gt G.lt, fun hm => ?_, G.ncl⟩
  rcases List.mem_cons.mp (G.I4.stkSub a hm) with z | z
  · have h1 := G.I4.lt
    rw [← z] at h1
    exact Nat.lt_irrefl _ (Nat.lt_of_lt_of_le h1 hge)
  · exact G.I4.nofs hge z
section
variable {X : Cx}
/-- what a generator expression asks -/
def tGen {β : Type} (wi : TI) (MkR : Hp → Prop) (P : Addr) (f : NmF) (nm : Str) (gpos : Pos) (g : TG) (tt : Addr → Addr → TT) (te : Addr → Addr → TE) (vs : List Nat) (b0 : β) (Fin : VK → β → Hp → Prop) (Yd : VK → β → (β → Hp → Prop) → V → Hp → Prop) : TE := fun σ H Q => wi σ H fun J H1 =>
  MkR H1 ∧ TabOk H1 f P ∧ ∀ H2 c' P', GrowT P nm gpos H1 H2 c' P' → ∃ W : β → Nat → Nat → Hp → Prop, (∃ m, W b0 0 m H2) ∧ Turns W (Fin Q) (Yd Q) J g (tt c' P') (te c' P') vs σ
abbrev tAny (wi : TI) (MkR : Hp → Prop) (P : Addr) (f : NmF) (nm : Str) (gpos : Pos) (g : TG) (tt : Addr → Addr → TT) (te : Addr → Addr → TE) (vs : List Nat) : TE := tGen wi MkR P f nm gpos g tt te vs () (fun Q _ H => Q (.bl false) H) YdAny
abbrev tAll (wi : TI) (MkR : Hp → Prop) (P : Addr) (f : NmF) (nm : Str) (gpos : Pos) (g : TG) (tt : Addr → Addr → TT) (te : Addr → Addr → TE) (vs : List Nat) : TE := tGen wi MkR P f nm gpos g tt te vs () (fun Q _ H => Q (.bl true) H) YdAll
theorem bt_any : bootBuiltins "any" = some (.builtin "any") := by decide +kernel
theorem bt_all : bootBuiltins "all" = some (.builtin "all") := by decide +kernel
theorem room_in2 {k : Nat} {A : Around} (hr : Room (k + 1) A) (env : Env) : Room k (A.in1.in1.deeper env) :=
  ⟨hr.hd, by have := hr.dp; show A.depth + 1 + 3 * k + 5 < _; omega, by have := hr.un; show A.units + 1 + 1 + 3 + 16 * k + 200 < _; omega⟩
theorem pe_any {c P : Addr} {f : NmF} {elt tg iter : Expr} {ifs : List Expr} {scope : Scope} {p pos gpos : Pos} {own : List (Str × Nat)} {wi : TI} {k : Nat} {MkR : Hp → Prop} {g : TG} {tt : Addr → Addr → TT} {te : Addr → Addr → TE}
    (hc : X.calm = true) (hr : Room (k + 1) X.A) (hN : X.N.Nodup) (hg : Gl X "any") (hm : X.mg "any" = none) (hi : PI X tg iter wi) (S : GenOk X scope own) (hM : MkSrc X MkR c P) (hs : ∀ v, genFold iter X.env v = pure v)
    (pg : ∀ (s : Shared) (H : Hp) (C : Addr) (code : Value) (A : Around) (fp : List Addr), PG (genCx X s H scope C code A fp) tg g)
    (pt : ∀ (s : Shared) (H : Hp) (C c' P' : Addr) (A : Around) (fp : List Addr), Room k A → PTs (genCx X s H scope C (.ref c') A fp) ifs (tt c' P'))
    (pe : ∀ (s : Shared) (H : Hp) (C c' P' : Addr) (A : Around) (fp : List Addr), Room k A → PE (genCx X s H scope C (.ref c') A fp) elt (te c' P'))
    (he : starEach [.GeneratorExp elt [⟨tg, iter, ifs, 0⟩] scope gpos] X.env = (false, eval (.GeneratorExp elt [⟨tg, iter, ifs, 0⟩] scope gpos) X.env) :: starEach [] X.env := by rfl) :
    PE X (.Call (.Name "any" p) [.GeneratorExp elt [⟨tg, iter, ifs, 0⟩] scope gpos] [] pos) (tAny wi MkR P f (X.env.qual ++ "<genexpr>") gpos g tt te (own.map (·.2))) := by
  refine ⟨fun pins s σ H Q I h => ?_⟩
  refine wpAny_Call_Name_kw (ld_blt I hg hm bt_any ?_)
  refine PyProof.Rows.callWith_builtin1 ?_ he (by rfl)
  rw [he]
  show wpAny _ _ (spliced ((false, eval (.GeneratorExp elt [⟨tg, iter, ifs, 0⟩] scope gpos) X.env) :: backTo pos (starEach [] X.env))) _ _ s
  refine Calls.spliced_cons (gx_make (f := f) hr I hi S hM hs h fun J H2 c' P' s4 s5 a gn it go fp tn G hK => ?_)
  refine Calls.spliced_nil ?_
  obtain ⟨W, ⟨m0, w0⟩, turns⟩ := hK
  have hfr : X.A.in1.in1.frames = some X.stack := I.ok.frames
  have at0 := G.start (A := X.A.in1.in1) S hN hr.hd hfr
  have hPl : ∀ (b : Unit) pl, PnU b pl → ∀ p ∈ (a, go) :: pl, p.1 ∉ fp := fun b pl e p hp hq => by
    rw [show pl = [] from e] at hp
    rw [List.mem_singleton.mp hp] at hq
    exact Nat.lt_irrefl _ (Nat.lt_trans G.lt (G.f4 a hq).2)
  have sus := gstart (Fin := fun _ H => Q (.bl false) H) (Yd := YdAny Q) (Pn := PnU) (gn := gn) (n := m0 + 1) (s := s5) hc G.T (pg s4 H2 _ (.ref c') _ fp) (pt s4 H2 _ c' P' _ fp (room_in2 hr _)) (pe s4 H2 _ c' P' _ fp (room_in2 hr _)) turns S.co hPl G.gs
  refine call_function_tree F.kind_any F.plain_any F.entry_any (F.args_any1 _) ?_
  unfold Builtin.«any»
  refine wpAny_bind (m := oneArg "any" _) (wpAny_pure ?_)
  refine wpAny_bind (wpAny_pyIter_gen (G.isg _ G.ag) ?_)
  refine wpAny_pure ⟨plainId_quiet F.plain_any_loop _, any_loop (Z := genCx X s4 H2 scope s4.heap.objs.size (.ref c') (X.A.in1.in1.deeper (gEnv X scope s4.heap.objs.size (.ref c'))) fp) (Q := Q) hr.hd hr.depth G.isg (fun b H' s' I' q => ?_) (m0 + 1) m0 0 H2 s5 (Nat.lt_succ_self _) w0 at0 sus⟩
  exact ⟨.bl b, H', G.back I', rfl, q⟩
theorem pe_all {c P : Addr} {f : NmF} {elt tg iter : Expr} {ifs : List Expr} {scope : Scope} {p pos gpos : Pos} {own : List (Str × Nat)} {wi : TI} {k : Nat} {MkR : Hp → Prop} {g : TG} {tt : Addr → Addr → TT} {te : Addr → Addr → TE}
    (hc : X.calm = true) (hr : Room (k + 1) X.A) (hN : X.N.Nodup) (hg : Gl X "all") (hm : X.mg "all" = none) (hi : PI X tg iter wi) (S : GenOk X scope own) (hM : MkSrc X MkR c P) (hs : ∀ v, genFold iter X.env v = pure v)
    (pg : ∀ (s : Shared) (H : Hp) (C : Addr) (code : Value) (A : Around) (fp : List Addr), PG (genCx X s H scope C code A fp) tg g)
    (pt : ∀ (s : Shared) (H : Hp) (C c' P' : Addr) (A : Around) (fp : List Addr), Room k A → PTs (genCx X s H scope C (.ref c') A fp) ifs (tt c' P'))
    (pe : ∀ (s : Shared) (H : Hp) (C c' P' : Addr) (A : Around) (fp : List Addr), Room k A → PE (genCx X s H scope C (.ref c') A fp) elt (te c' P'))
    (he : starEach [.GeneratorExp elt [⟨tg, iter, ifs, 0⟩] scope gpos] X.env = (false, eval (.GeneratorExp elt [⟨tg, iter, ifs, 0⟩] scope gpos) X.env) :: starEach [] X.env := by rfl) :
    PE X (.Call (.Name "all" p) [.GeneratorExp elt [⟨tg, iter, ifs, 0⟩] scope gpos] [] pos) (tAll wi MkR P f (X.env.qual ++ "<genexpr>") gpos g tt te (own.map (·.2))) := by
  refine ⟨fun pins s σ H Q I h => ?_⟩
  refine wpAny_Call_Name_kw (ld_blt I hg hm bt_all ?_)
  refine PyProof.Rows.callWith_builtin1 ?_ he (by rfl)
  rw [he]
  show wpAny _ _ (spliced ((false, eval (.GeneratorExp elt [⟨tg, iter, ifs, 0⟩] scope gpos) X.env) :: backTo pos (starEach [] X.env))) _ _ s
  refine Calls.spliced_cons (gx_make (f := f) hr I hi S hM hs h fun J H2 c' P' s4 s5 a gn it go fp tn G hK => ?_)
  refine Calls.spliced_nil ?_
  obtain ⟨W, ⟨m0, w0⟩, turns⟩ := hK
  have hfr : X.A.in1.in1.frames = some X.stack := I.ok.frames
  have at0 := G.start (A := X.A.in1.in1) S hN hr.hd hfr
  have hPl : ∀ (b : Unit) pl, PnU b pl → ∀ p ∈ (a, go) :: pl, p.1 ∉ fp := fun b pl e p hp hq => by
    rw [show pl = [] from e] at hp
    rw [List.mem_singleton.mp hp] at hq
    exact Nat.lt_irrefl _ (Nat.lt_trans G.lt (G.f4 a hq).2)
  have sus := gstart (Fin := fun _ H => Q (.bl true) H) (Yd := YdAll Q) (Pn := PnU) (gn := gn) (n := m0 + 1) (s := s5) hc G.T (pg s4 H2 _ (.ref c') _ fp) (pt s4 H2 _ c' P' _ fp (room_in2 hr _)) (pe s4 H2 _ c' P' _ fp (room_in2 hr _)) turns S.co hPl G.gs
  refine call_function_tree F.kind_all F.plain_all F.entry_all (F.args_all1 _) ?_
  unfold Builtin.«all»
  refine wpAny_bind (m := oneArg "all" _) (wpAny_pure ?_)
  refine wpAny_bind (wpAny_pyIter_gen (G.isg _ G.ag) ?_)
  refine wpAny_pure ⟨plainId_quiet F.plain_all_loop _, all_loop (Z := genCx X s4 H2 scope s4.heap.objs.size (.ref c') (X.A.in1.in1.deeper (gEnv X scope s4.heap.objs.size (.ref c'))) fp) (Q := Q) hr.hd hr.depth G.isg (fun b H' s' I' q => ?_) (m0 + 1) m0 0 H2 s5 (Nat.lt_succ_self _) w0 at0 sus⟩
  exact ⟨.bl b, H', G.back I', rfl, q⟩
end
end L3

namespace L3
open PySem PySem.Spec PyProof.Rows L2
abbrev sumObj (b : Int) (t : Tok) (c : Nat) : Obj := { cls := .type "list", dict := none, data := .seq #[.int b t] c, slots := #[] }
abbrev YdSum (Q : VK) : Int → (Int → Hp → Prop) → V → Hp → Prop := fun b Nx y H => ∃ n, y = .int n ∧ Nx (b + n) H
def PnS (S : Addr) : Int → List (Addr × Obj) → Prop := fun b pl => ∃ t c, pl = [(S, sumObj b t c)]
theorem pnS (S : Addr) : ∀ (b b' : Int) (pl pl' : List (Addr × Obj)) (h : Heap), PnS S b pl → PnS S b' pl' → (∀ p ∈ pl, h.get? p.1 = some p.2) → (∀ p ∈ pl', h.get? p.1 = some p.2) → b = b' ∧ pl = pl' := fun b b' pl pl' h ⟨t, c, e1⟩ ⟨t', c', e2⟩ h1 h2 => by
  have q1 := h1 (S, sumObj b t c) (by rw [e1]; exact List.mem_cons_self)
  have q2 := h2 (S, sumObj b' t' c') (by rw [e2]; exact List.mem_cons_self)
  have q3 : some (sumObj b t c) = some (sumObj b' t' c') := q1.symm.trans q2
  have q4 : sumObj b t c = sumObj b' t' c' := Option.some.inj q3
  have q5 : Data.seq #[Value.int b t] c = Data.seq #[Value.int b' t'] c' := congrArg Obj.data q4
  injection q5 with q6 q7
  have q8 : Value.int b t = Value.int b' t' := by
    have := congrArg (fun (a : Array Value) => a[0]?) q6
    simpa using this
  injection q8 with q9 q10
  subst q9 q10 q7
  exact ⟨rfl, by rw [e1, e2]⟩
/-- the consumer's own list is written while the generator sleeps -/
theorem AtI.put {Z : Cx} {a S : Addr} {go o o' : Obj} {σw : L2.St} {tn : Nat → Heap → Prop} {fp : List Addr} {j : Nat} {H : Hp} {s : Shared} {h' : Heap} {t' : Nat} {P : Program} {w : World} {K : PySem.W.Frag} {tg : Expr} {J : It} {it : Addr} (T : Turn P w K tg J fp it tn) (hpn : Z.pn = [])
    (h : AtI Z a go σw tn fp [(S, o)] j H s) (hS : Z.s_0.heap.objs.size ≤ S) (hf : S ∉ fp) (ha : a ≠ S) (k : ∀ b u, b ≠ S → s.heap.get? b = some u → h'.get? b = some u) (e : h'.get? S = some o') (nc : ∀ v, o'.data ≠ .cell v) :
    AtI Z a go σw tn fp [(S, o')] j H { s with heap := h', toks := t' } := by
  obtain ⟨I, st, fn⟩ := h
  have pS := I.pin (S, o) (List.mem_append_right _ (List.mem_cons_of_mem _ List.mem_cons_self))
  have pa := I.pin (a, go) (List.mem_append_right _ List.mem_cons_self)
  have hc : ∀ x c, Z.env.cells.lookup x = some c → c ≠ S := fun x c ec z => by
    obtain ⟨v, oc, ho, hd⟩ := I.cell x c ec
    rw [z, pS.1] at ho
    cases ho
    exact pS.2.2.2.2 v hd
  have I0 : Inv Z [] σw H s := I.pins_of fun p hp => by cases hp
  have I1 : Inv Z [] σw H { s with heap := h', toks := t' } := I0.turned (it := S) k pS.2.1 pS.2.2.1 (.inr hS) hc fun p hp => by rw [hpn] at hp; cases hp
  refine ⟨I1.pins_of fun p hp => ?_, T.keep _ _ _ st fun b hb u eu => k b u (fun z => hf (by rw [← z]; exact hb)) eu, fn⟩
  rcases List.mem_cons.mp hp with rfl | hp
  · exact ⟨k _ _ ha pa.1, pa.2⟩
  · rw [List.mem_singleton.mp hp]
    exact ⟨e, pS.2.1, pS.2.2.1, pS.2.2.2.1, nc⟩
/-- the consumer lays its own list -/
theorem AtI.lay {Z : Cx} {a S : Addr} {go o : Obj} {σw : L2.St} {tn : Nat → Heap → Prop} {fp : List Addr} {j : Nat} {H : Hp} {s : Shared} {t' : Nat} {P : Program} {w : World} {K : PySem.W.Frag} {tg : Expr} {J : It} {it : Addr} (T : Turn P w K tg J fp it tn) (hL : Z.env.frame = some Z.env.locals)
    (h : AtI Z a go σw tn fp [] j H s) (hS : S = s.heap.objs.size) (nf : o.isFreed = false) (nc : ∀ v, o.data ≠ .cell v) : AtI Z a go σw tn fp [(S, o)] j H { s with heap := s.heap.push o, toks := t' } := by
  subst hS
  obtain ⟨I, st, fn⟩ := h
  have I1 : Inv Z [(a, go)] σw H { s with heap := s.heap.push o, toks := t' } := I.kept fun b u e => Heap.get?_push_of_some _ e
  refine ⟨I1.pins_of fun p hp => ?_, T.keep _ _ _ st fun b hb u eu => Heap.get?_push_of_some _ eu, fn⟩
  rcases List.mem_cons.mp hp with rfl | hp
  · exact I1.pin (a, go) (List.mem_append_right _ List.mem_cons_self)
  · rw [List.mem_singleton.mp hp]
    exact ⟨Heap.get?_push_size _ nf, I.hok.fresh (Nat.le_refl _), Nat.ne_of_gt I.lt, I.nofs (Nat.le_refl _), nc⟩
section
variable {W : Int → Nat → Nat → Hp → Prop} {Z : Cx} {A : Around} {a S it : Addr} {go : Obj} {gn : Nat} {σw : L2.St} {tn : Nat → Heap → Prop} {fp : List Addr} {Q : VK} {R : Result → Shared → Prop} {P : Program} {w : World} {K : PySem.W.Frag} {tg : Expr} {J : It}
theorem sum_loop (T : Turn P w K tg J fp it tn) (hpn : Z.pn = []) (hS : Z.s_0.heap.objs.size ≤ S) (hSf : S ∉ fp) (ha : a ≠ S) (hh : A.handled = none) (hroom : A.in1.depth < recursionLimit) (hgo : ∀ h : Heap, h.get? a = some go → h.IsGen a gn)
    (fin : ∀ (n : Int) t pl H' s', Inv Z ((a, go) :: pl) σw H' s' → Q (.int n) H' → R (.ok (.ret (.int n t))) s') :
    ∀ (n m j : Nat) (b : Int) (t : Tok) (c : Nat) (st : Int) (H : Hp) (s : Shared), (st = 0 ∨ st = 2) → m < n → W b j m H → AtI Z a go σw tn fp [(S, sumObj b t c)] j H s → Sus W (fun b H => Q (.int b) H) (YdSum Q) (PnS S) Z A.in1.in1 a go gn σw tn fp n j s →
      codeAny (model Z.prog Z.w) A (.builtin "sum.loop" ⟨[.ref a, .ref S, rawInt st, rawInt 0], []⟩) R s := by
  intro n
  induction n with
  | zero => intro m j b t c st H s _ h; exact absurd h (Nat.not_lt_zero _)
  | succ n ih =>
    intro m j b t c st H s hst2 hmn w hAt hSus
    have hSget : s.heap.get? S = some (sumObj b t c) := (hAt.1.pin (S, sumObj b t c) (List.mem_append_right _ (List.mem_cons_of_mem _ List.mem_cons_self))).1
    refine codeAny_builtin F.entry_sum_loop ?_
    rw [Around.under_plainId F.plain_sum_loop _]
    show wpAny _ A.in1 (seqItems? (.ref S) >>= _) _ _ s
    refine wpAny_bind (wpAny_seqItems hSget rfl ?_)
    show wpAny _ A.in1 (tryCatch (pyNext (.ref a)) _ >>= _) _ _ s
    refine wpAny_bind (wpAny_tryCatch (gen_next (A0 := A.in1) hh hroom hgo (pnS S) hmn w ⟨t, c, rfl⟩ hAt hSus (fun H' s' I' q => ?_) fun n' v x j' H' Nx s' en rv hAt' hyd hnx hS'' => ?_))
    · exact wpAny_pure (fin b t _ H' s' I' q)
    · obtain ⟨val, rfl, hq⟩ := hyd
      obtain ⟨tv, rfl⟩ := rv
      cases en
      obtain ⟨m', hm, w'⟩ := hnx (b + val) H' hq
      have hS' : s'.heap.get? S = some (sumObj b t c) := (hAt'.1.pin (S, sumObj b t c) (List.mem_append_right _ (List.mem_cons_of_mem _ List.mem_cons_self))).1
      have nc : ∀ (x : Int) (t : Tok) (c : Nat) v, (sumObj x t c).data ≠ .cell v := fun x t c v z => by cases z
      rcases hst2 with rfl | rfl
      · show wpAny _ A.in1 (if (_ : Bool) = true then (mkInt (b + val) >>= _) else _) _ _ _
        split
        · refine wpAny_bind (wpAny_mkInt ?_)
          show wpAny _ A.in1 (updateSeq S (fun _ => #[.int (b + val) s'.toks]) >>= _) _ _ _
          refine wpAny_bind ?_
          refine wpAny_updateSeq hS' rfl (wpAny_pure ⟨plainId_quiet F.plain_sum_loop _, ?_⟩)
          have e1 := Heap.get?_update_self (Obj.mapSeq fun _ => #[Value.int (b + val) s'.toks]) hS' rfl
          exact ih m' j' (b + val) s'.toks _ 0 H' _ (.inl rfl) hm w' (AtI.put (s := s') (t' := s'.toks + 1) (o' := sumObj (b + val) s'.toks _) T hpn hAt' hS hSf ha (fun b u hb e => (Heap.get?_update_other _ _ (Ne.symm hb)).trans e) e1 (nc _ _ _)) hS''
        · refine wpAny_bind (wpAny_rule ?_)
          refine wpAny_bind (wpAny_attempt (wpAny_holding (wpAny_add_int ?_)))
          show wpAny _ A.in1 (updateSeq S (fun _ => #[.int (b + val) s'.toks]) >>= _) _ _ _
          refine wpAny_bind (wpAny_updateSeq hS' rfl ?_)
          have hS₂ := Heap.get?_update_self (Obj.mapSeq fun _ => #[Value.int (b + val) s'.toks]) hS' rfl
          refine wpAny_bind (wpAny_letGo ?_)
          refine wpAny_bind (wpAny_updateSeq hS₂ rfl (wpAny_pure ⟨plainId_quiet F.plain_sum_loop _, ?_⟩))
          have e2 := Heap.get?_update_self (Obj.mapSeq fun _ => #[Value.int (b + val) s'.toks]) hS₂ rfl
          exact ih m' j' (b + val) s'.toks _ 2 H' _ (.inr rfl) hm w' (AtI.put (s := s') (t' := s'.toks + 1) (o' := sumObj (b + val) s'.toks _) T hpn hAt' hS hSf ha (fun b u hb e => (Heap.get?_update_other _ _ (Ne.symm hb)).trans ((Heap.get?_update_other _ _ (Ne.symm hb)).trans e)) e2 (nc _ _ _)) hS''
      · show wpAny _ A.in1 ((holding [Value.int val tv] (binaryOp .Add (.int b t) (.int val tv))).attempt >>= _) _ _ _
        refine wpAny_bind (wpAny_attempt (wpAny_holding (wpAny_add_int ?_)))
        show wpAny _ A.in1 (updateSeq S (fun _ => #[.int (b + val) s'.toks]) >>= _) _ _ _
        refine wpAny_bind (wpAny_updateSeq hS' rfl ?_)
        have hS₂ := Heap.get?_update_self (Obj.mapSeq fun _ => #[Value.int (b + val) s'.toks]) hS' rfl
        refine wpAny_bind (wpAny_letGo ?_)
        refine wpAny_bind (wpAny_updateSeq hS₂ rfl (wpAny_pure ⟨plainId_quiet F.plain_sum_loop _, ?_⟩))
        have e2 := Heap.get?_update_self (Obj.mapSeq fun _ => #[Value.int (b + val) s'.toks]) hS₂ rfl
        exact ih m' j' (b + val) s'.toks _ 2 H' _ (.inr rfl) hm w' (AtI.put (s := s') (t' := s'.toks + 1) (o' := sumObj (b + val) s'.toks _) T hpn hAt' hS hSf ha (fun b u hb e => (Heap.get?_update_other _ _ (Ne.symm hb)).trans ((Heap.get?_update_other _ _ (Ne.symm hb)).trans e)) e2 (nc _ _ _)) hS''
end
section
variable {X : Cx}
abbrev tSumG (wi : TI) (MkR : Hp → Prop) (P : Addr) (f : NmF) (nm : Str) (gpos : Pos) (g : TG) (tt : Addr → Addr → TT) (te : Addr → Addr → TE) (vs : List Nat) : TE := tGen wi MkR P f nm gpos g tt te vs (0 : Int) (fun Q b H => Q (.int b) H) YdSum
theorem bt_sum : bootBuiltins "sum" = some (.builtin "sum") := by decide +kernel
theorem pe_sumG {c P : Addr} {f : NmF} {elt tg iter : Expr} {ifs : List Expr} {scope : Scope} {p pos gpos : Pos} {own : List (Str × Nat)} {wi : TI} {k : Nat} {MkR : Hp → Prop} {g : TG} {tt : Addr → Addr → TT} {te : Addr → Addr → TE}
    (hc : X.calm = true) (hr : Room (k + 1) X.A) (hN : X.N.Nodup) (hg : Gl X "sum") (hm : X.mg "sum" = none) (hi : PI X tg iter wi) (S : GenOk X scope own) (hM : MkSrc X MkR c P) (hs : ∀ v, genFold iter X.env v = pure v)
    (pg : ∀ (s : Shared) (H : Hp) (C : Addr) (code : Value) (A : Around) (fp : List Addr), PG (genCx X s H scope C code A fp) tg g)
    (pt : ∀ (s : Shared) (H : Hp) (C c' P' : Addr) (A : Around) (fp : List Addr), Room k A → PTs (genCx X s H scope C (.ref c') A fp) ifs (tt c' P'))
    (pe : ∀ (s : Shared) (H : Hp) (C c' P' : Addr) (A : Around) (fp : List Addr), Room k A → PE (genCx X s H scope C (.ref c') A fp) elt (te c' P'))
    (he : starEach [.GeneratorExp elt [⟨tg, iter, ifs, 0⟩] scope gpos] X.env = (false, eval (.GeneratorExp elt [⟨tg, iter, ifs, 0⟩] scope gpos) X.env) :: starEach [] X.env := by rfl) :
    PE X (.Call (.Name "sum" p) [.GeneratorExp elt [⟨tg, iter, ifs, 0⟩] scope gpos] [] pos) (tSumG wi MkR P f (X.env.qual ++ "<genexpr>") gpos g tt te (own.map (·.2))) := by
  refine ⟨fun pins s σ H Q I h => ?_⟩
  refine wpAny_Call_Name_kw (ld_blt I hg hm bt_sum ?_)
  refine PyProof.Rows.callWith_builtin1 ?_ he (by rfl)
  rw [he]
  show wpAny _ _ (spliced ((false, eval (.GeneratorExp elt [⟨tg, iter, ifs, 0⟩] scope gpos) X.env) :: backTo pos (starEach [] X.env))) _ _ s
  refine Calls.spliced_cons (gx_make (f := f) hr I hi S hM hs h fun J H2 c' P' s4 s5 a gn it go fp tn G hK => ?_)
  refine Calls.spliced_nil ?_
  obtain ⟨W, ⟨m0, w0⟩, turns⟩ := hK
  have hfr : X.A.in1.in1.frames = some X.stack := I.ok.frames
  have at0 := G.start (A := X.A.in1.in1) S hN hr.hd hfr
  have halt : a < s5.heap.objs.size := Heap.lt_size G.ag
  have h45 : s4.heap.objs.size ≤ s5.heap.objs.size := Nat.le_trans (Nat.le_of_lt G.lt) (Nat.le_of_lt halt)
  have hSf : s5.heap.objs.size ∉ fp := fun hq => Nat.lt_irrefl _ (Nat.lt_of_lt_of_le (G.f4 _ hq).2 h45)
  have hPl : ∀ (b : Int) pl, PnS s5.heap.objs.size b pl → ∀ p ∈ (a, go) :: pl, p.1 ∉ fp := fun b pl ⟨t, c, e⟩ p hp hq => by
    rw [e] at hp
    rcases List.mem_cons.mp hp with rfl | hp
    · exact Nat.lt_irrefl _ (Nat.lt_trans G.lt (G.f4 a hq).2)
    · rw [List.mem_singleton.mp hp] at hq
      exact hSf hq
  have sus := gstart (Fin := fun b H => Q (.int b) H) (Yd := YdSum Q) (Pn := PnS s5.heap.objs.size) (gn := gn) (n := m0 + 1) (s := s5) hc G.T (pg s4 H2 _ (.ref c') _ fp) (pt s4 H2 _ c' P' _ fp (room_in2 hr _)) (pe s4 H2 _ c' P' _ fp (room_in2 hr _)) turns S.co hPl G.gs
  refine call_function_tree F.kind_sum F.plain_sum F.entry_sum (F.args_sum1 _) ?_
  unfold Builtin.«sum»
  simp only [List.length_cons, List.length_nil]
  rw [if_neg (by decide)]
  refine wpAny_bind (wpAny_of_eq (show Builtin.Builtins.bindParams "sum" ["start"] 0 { } = pure [none] from rfl) ?_)
  refine wpAny_bind (wpAny_pyIter_gen (G.isg _ G.ag) ?_)
  refine wpAny_bind (wpAny_mkInt ?_)
  refine wpAny_bind (wpAny_pure ?_)
  simp only [List.forIn_cons, List.forIn_nil]
  refine wpAny_bind (wpAny_bind (wpAny_bind (wpAny_isInstance (T := "int") (b := false) (typeIs_int _ _ _) PySem.sub_int_str ?_)))
  simp only [Bool.false_eq_true, if_false]
  refine wpAny_pure (wpAny_bind (wpAny_bind (wpAny_isInstance (T := "int") (b := false) (typeIs_int _ _ _) PySem.sub_int_bytes ?_)))
  simp only [Bool.false_eq_true, if_false]
  refine wpAny_pure (wpAny_bind (wpAny_bind (wpAny_isInstance (T := "int") (b := false) (typeIs_int _ _ _) PySem.sub_int_bytearray ?_)))
  simp only [Bool.false_eq_true, if_false]
  refine wpAny_pure (wpAny_pure ?_)
  refine wpAny_bind (wpAny_newObj_type ?_)
  refine wpAny_pure ⟨plainId_quiet F.plain_sum_loop _, ?_⟩
  have hat := AtI.lay (t' := s5.toks + 1) (o := sumObj 0 s5.toks 0) (S := s5.heap.objs.size) G.T rfl at0 rfl rfl (fun v z => by cases z)
  refine sum_loop (Z := genCx X s4 H2 scope s4.heap.objs.size (.ref c') (X.A.in1.in1.deeper (gEnv X scope s4.heap.objs.size (.ref c'))) fp) (Q := Q) (S := s5.heap.objs.size) G.T rfl h45 hSf (Nat.ne_of_lt halt) hr.hd hr.depth G.isg (fun b t pl H' s' I' q => ?_) (m0 + 1) m0 0 0 s5.toks 0 0 H2 _ (.inl rfl) (Nat.lt_succ_self _) w0 hat sus
  exact ⟨.int b, H', G.back I', ⟨t, rfl⟩, q⟩
end
end L3

namespace L3
open PySem L2
variable [Md]
section
variable [Tb]
/-! ### what consumes a generator, on data -/
abbrev StepF (β : Type) := β → D → Option (Except D β)
def gxLoop {β : Type} (vs : List Nat) (fg : D → DEnv → Option DEnv) (ft : M Bool) (fe : M R) (step : StepF β) (fin : β → D) : List D → β → DEnv → Option (D × DEnv)
  | [], b, ρ => some (fin b, ρ)
  | d :: ds, b, ρ => match fg d (wipeD ρ vs) with
    | none => none
    | some ρ1 => match ft ρ1 with
      | some (.ok true, ρ2) => match fe ρ2 with
        | some (.ok r, ρ3) => match deref ρ3 r with
          | some x => match step b x with
            | some (.ok b') => gxLoop vs fg ft fe step fin ds b' ρ3
            | some (.error y) => some (y, ρ3)
            | none => none
          | none => none
        | _ => none
      | some (.ok false, ρ2) => gxLoop vs fg ft fe step fin ds b ρ2
      | _ => none
def fGen {β : Type} (fi : M (List D)) (vs : List Nat) (fg : D → DEnv → Option DEnv) (ft : M Bool) (fe : M R) (step : StepF β) (fin : β → D) (b0 : β) : M R := fi.bind fun ds ρ0 => if vs.all (noOwn ρ0) = true then match gxLoop vs fg ft fe step fin ds b0 ρ0 with
  | some (d, ρ1) => some (.ok (.val d), putBack ρ0 ρ1 vs)
  | none => none else none
def stAny : StepF Unit := fun _ d => match d with
  | .bl c => some (if c = true then .error (.bl true) else .ok ())
  | _ => none
def stAll : StepF Unit := fun _ d => match d with
  | .bl c => some (if c = true then .ok () else .error (.bl false))
  | _ => none
def stSum : StepF Int := fun b d => match d with
  | .int n => some (.ok (b + n))
  | _ => none
def fnAny : Unit → D := fun _ => .bl false
def fnAll : Unit → D := fun _ => .bl true
def fnSum : Int → D := fun b => .int b
/-- how a consumer's step on data stands for its step on values -/
structure GCons {β : Type} (Fin : VK → β → Hp → Prop) (Yd : VK → β → (β → Hp → Prop) → V → Hp → Prop) (step : StepF β) (fin : β → D) : Prop where
  fin : ∀ (B : Addr → Prop) H (Q : VK) b, (∀ v, Rp B H v (fin b) → Q v H) → Fin Q b H
  yd : ∀ (B : Addr → Prop) H (Q : VK) b d v Nx r, Rb B H v d → step b d = some r → (match r with | .ok b' => Nx b' H | .error y => ∀ v', Rp B H v' y → Q v' H) → Yd Q b Nx v H
theorem cons_any : GCons (fun Q (_ : Unit) H => Q (.bl false) H) YdAny stAny fnAny := by
  refine ⟨fun B H Q b k => k _ (.bl false), fun B H Q b d v Nx r rb e k => ?_⟩
  unfold stAny at e
  split at e
  · rename_i c
    have e' := Option.some.inj e
    subst e'
    refine ⟨c, rb.bl, ?_⟩
    cases c with
    | true => exact k _ (.bl true)
    | false => exact k
  · cases e
theorem cons_all : GCons (fun Q (_ : Unit) H => Q (.bl true) H) YdAll stAll fnAll := by
  refine ⟨fun B H Q b k => k _ (.bl true), fun B H Q b d v Nx r rb e k => ?_⟩
  unfold stAll at e
  split at e
  · rename_i c
    have e' := Option.some.inj e
    subst e'
    refine ⟨c, rb.bl, ?_⟩
    cases c with
    | true => exact k
    | false => exact k _ (.bl false)
  · cases e
theorem cons_sum : GCons (fun Q (b : Int) H => Q (.int b) H) YdSum stSum fnSum := by
  refine ⟨fun B H Q b k => k _ (.int b), fun B H Q b d v Nx r rb e k => ?_⟩
  unfold stSum at e
  split at e
  · rename_i n
    have e' := Option.some.inj e
    subst e'
    exact ⟨n, rb.int, k⟩
  · cases e
end
/-! ### the heap when a code object is made -/
theorem GrowT.kp {P : Addr} {nm : Str} {pos : Pos} {H1 H2 : Hp} {c' P' : Addr} (g : GrowT P nm pos H1 H2 c' P') {a : Addr} {o : HO} (e : H1 a = some o) : Kp H1 a o H2 := ⟨fun n => g.keep e n, fun ps z => by subst z; exact g.tbl e⟩
theorem GrowT.tr {P : Addr} {nm : Str} {pos : Pos} {H1 H2 : Hp} {c' P' : Addr} (g : GrowT P nm pos H1 H2 c' P') {O : List (Option Addr)} : Tr O H1 O H2 := fun a o n e => ⟨g.kp e, n⟩
theorem GrowT.tabs [Tb] {P : Addr} {nm : Str} {pos : Pos} {H1 H2 : Hp} {c' P' : Addr} (g : GrowT P nm pos H1 H2 c' P') (t : TabsT H1) (hn : ∀ p ∈ Tb.T, p.1 = P → ∀ g, p.2 = some g → nm = g pos.line pos.col) : TabsT H2 :=
  ⟨fun p hp => g.tab (t.t p hp) fun f e z => hn p hp z f e, fun q hq => by
    obtain ⟨nm', e⟩ := t.c q hq
    exact ⟨nm', g.keep e fun ps z => by unfold CodeT at z; cases z⟩⟩
theorem GrowT.rel [Tb] {P : Addr} {nm : Str} {pos : Pos} {H1 H2 : Hp} {c' P' : Addr} (g : GrowT P nm pos H1 H2 c' P') (hn : ∀ p ∈ Tb.T, p.1 = P → ∀ g, p.2 = some g → nm = g pos.line pos.col)
    {F : Addr → Prop} {A : Nat → Option Addr} {O : List (Option Addr)} {σ : St} {ρ : DEnv} (rel : Rel F A O σ H1 ρ) : Rel F A O σ H2 ρ :=
  { lenO := rel.lenO
    lenS := rel.lenS
    dom := fun a z => let ⟨o, e⟩ := rel.dom a z; (g.kp e).ex
    domA := fun i a z => let ⟨o, e⟩ := rel.domA i a z; (g.kp e).ex
    domO := fun i a z => let ⟨o, e⟩ := rel.domO i a z; (g.kp e).ex
    inj := rel.inj
    tabs := g.tabs rel.tabs hn
    slot := fun i sv e => by
      have q := rel.slot i sv e
      cases sv with
      | sh d => obtain ⟨v, e1, e2⟩ := q; exact ⟨v, e1, e2.tr g.tr⟩
      | ow d => obtain ⟨p, o, e1, e2, e3, e4, e5, mu, e6⟩ := q; exact ⟨p, o, e1, e2, e3, e4, g.keep e5 mu.nt, mu, e6.tr g.tr⟩
      | io d => obtain ⟨p, o, e1, e3, e4, e5, mu, e6⟩ := q; exact ⟨p, o, e1, e3, e4, g.keep e5 mu.nt, mu, e6.tr g.tr⟩ }
/-- with the code object's own table -/
@[reducible] def Tb.cons (t : Tb) (c' P' : Addr) : Tb := ⟨(P', none) :: t.T, (c', P') :: t.C⟩
theorem Rel.inG [t : Tb] {F : Addr → Prop} {A : Nat → Option Addr} {O : List (Option Addr)} {σ : St} {H : Hp} {ρ : DEnv} {c' P' : Addr} (rel : Rel F A O σ H ρ) (h1 : TabOk H none P') (h2 : ∃ nm, H c' = some (CodeT c' P' nm)) : @Rel _ (t.cons c' P') F A O σ H ρ := by
  obtain ⟨a1, a2, a3, a4, a5, a6, a8, a7⟩ := rel
  refine @Rel.mk _ (t.cons c' P') _ _ _ _ _ _ a1 a2 a3 a4 a5 a6 a8 ?_
  refine @TabsT.mk (t.cons c' P') _ (fun p hp => ?_) fun q hq => ?_
  · rcases List.mem_cons.mp hp with rfl | hp
    · exact h1
    · exact a7.t p hp
  · rcases List.mem_cons.mp hq with rfl | hq
    · exact h2
    · exact a7.c q hq
theorem Rel.outG {t : Tb} {F : Addr → Prop} {A : Nat → Option Addr} {O : List (Option Addr)} {σ : St} {H : Hp} {ρ : DEnv} {c' P' : Addr} (rel : @Rel _ (t.cons c' P') F A O σ H ρ) : @Rel _ t F A O σ H ρ := by
  obtain ⟨a1, a2, a3, a4, a5, a6, a8, a7⟩ := rel
  refine @Rel.mk _ t _ _ _ _ _ _ a1 a2 a3 a4 a5 a6 a8 ?_
  obtain ⟨b1, b2⟩ := a7
  exact @TabsT.mk t _ (fun p hp => b1 p (List.mem_cons_of_mem _ hp)) fun q hq => b2 q (List.mem_cons_of_mem _ hq)
theorem Rel.outC {t : Tb} {F : Addr → Prop} {A : Nat → Option Addr} {O : List (Option Addr)} {σ : St} {H : Hp} {ρ : DEnv} {c' P' : Addr} (rel : @Rel _ (t.cons c' P') F A O σ H ρ) : TabOk H none P' ∧ ∃ nm, H c' = some (CodeT c' P' nm) := by
  obtain ⟨a1, a2, a3, a4, a5, a6, a8, a7⟩ := rel
  obtain ⟨b1, b2⟩ := a7
  exact ⟨b1 _ List.mem_cons_self, b2 _ List.mem_cons_self⟩
section
variable [tb : Tb] {W : WX} {mg : Str → Option Value}
theorem snd_gen {β : Type} {Fin : VK → β → Hp → Prop} {Yd : VK → β → (β → Hp → Prop) → V → Hp → Prop} {step : StepF β} {fin : β → D} {b0 : β} (tb' : Addr → Addr → Tb) (hin : ∀ {F A O σ H ρ c' P'}, Rel F A O σ H ρ → TabOk H none P' → (∃ nm, H c' = some (CodeT c' P' nm)) → @Rel _ (tb' c' P') F A O σ H ρ) (hout : ∀ {F A O σ H ρ c' P'}, @Rel _ (tb' c' P') F A O σ H ρ → Rel F A O σ H ρ) (cs : GCons Fin Yd step fin) {wi : TI} {MkR : Hp → Prop} {P : Addr} {f : NmF} {nm : Str} {gpos : Pos} {g : TG} {tt : Addr → Addr → TT} {te : Addr → Addr → TE} {vs is : List Nat} {fi : M (List D)} {fg : D → DEnv → Option DEnv} {ft : M Bool} {fe : M R}
    (hi : ∀ F A O σ H ρ r ρ' (Q : It → Hp → Prop), Rel F A O σ H ρ → fi ρ = some (r, ρ') → (match r with
      | .ok ds => ∀ H' J, Tr O H O H' → Rel F A O σ H' ρ' → Walk (Bad F A O) H' J ds → Q J H'
      | .error x => XPost mg W F A O σ H ρ' x) → wi σ H Q)
    (hT : (P, f) ∈ tb.T) (hn : ∀ p ∈ tb.T, p.1 = P → ∀ g, p.2 = some g → nm = g gpos.line gpos.col) (hMk : ∀ F A O σ H ρ, Rel F A O σ H ρ → MkR H)
    (hg : ∀ c' P', @SndG _ (tb' c' P') is g fg) (his : ∀ i ∈ is, i ∈ vs) (ht : ∀ c' P', @SndT _ (tb' c' P') mg W0 (tt c' P') ft) (he : ∀ c' P', @Snd _ (tb' c' P') mg W0 (te c' P') fe) :
    Snd mg W (tGen wi MkR P f nm gpos g tt te vs b0 Fin Yd) (fGen fi vs fg ft fe step fin b0) := by
  intro F A O σ H ρ r ρ' Q rel hf post
  unfold fGen M.bind at hf
  split at hf
  · rename_i ds ρ0 q
    refine hi F A O σ H ρ _ _ _ rel q fun H1 J t1 rel1 wk => ⟨hMk _ _ _ _ _ _ rel1, rel1.tabs.t _ hT, fun H2 c' P' gr => ?_⟩
    simp only at hf
    split at hf
    · rename_i nown
      split at hf
      · rename_i dF ρF hl
        cases hf
        have rel2 := gr.rel hn rel1
        have t2 : Tr O H O H2 := t1.trans gr.tr
        have no : ∀ v ∈ vs, ∀ d, ρ0[v]? ≠ some (some (.ow d)) ∧ ρ0[v]? ≠ some (some (.io d)) := fun v hv d => by
          have z := List.all_eq_true.mp nown v hv
          unfold noOwn at z
          refine ⟨fun e => ?_, fun e => ?_⟩
          · rw [e] at z; cases z
          · rw [e] at z; cases z
        -- the end
        have done : ∀ H' ρ2 σ4, Tr O H2 O H' → @Rel _ (tb' c' P') F A O (L2.wipe σ vs) H' (wipeD ρ2 vs) → ρ2 = ρF → ∀ v, Rp (Bad F A O) H' v dF → σ4 = σ → Q v H' := fun H' ρ2 σ4 tr rl e v rp _ => by
          subst e
          exact post H' v (t2.trans tr) (rel2.back tr no (hout rl)) rp
        refine ⟨fun b i m H => m = ds.length - i ∧ i ≤ ds.length ∧ ∃ ρ2, Tr O H2 O H ∧ @Rel _ (tb' c' P') F A O (L2.wipe σ vs) H (wipeD ρ2 vs) ∧ gxLoop vs fg ft fe step fin (ds.drop i) b ρ2 = some (dF, ρF),
          ⟨ds.length, by simp, by simp, ρ0, Tr.refl, @Rel.wipe _ (tb' c' P') _ _ _ _ _ _ _ _ (hin rel2 gr.tabN gr.code) rfl (fun _ _ => rfl), by simpa using hl⟩, ?_⟩
        rintro b i m H ⟨hm, hi2, ρ2, tr2, rl2, hl2⟩
        have wk2 := wk (Bad F A O) H (fun a o n e ht => ⟨(gr.tr.trans tr2).at (fun z => n (.inr (.inl z))) e ht, n⟩) (fun _ n => (hout rl2).good n) i
        split at wk2
        · rename_i d ed
          obtain ⟨hlt, hde⟩ := List.getElem?_eq_some_iff.mp ed
          have hd : ds.drop i = d :: ds.drop (i + 1) := by rw [List.drop_eq_getElem_cons hlt, hde]
          rw [hd] at hl2
          unfold gxLoop at hl2
          obtain ⟨hgo, hy⟩ := wk2
          refine .inr ⟨hgo, fun b' H3 => ∃ ρ2, Tr O H2 O H3 ∧ @Rel _ (tb' c' P') F A O (L2.wipe σ vs) H3 (wipeD ρ2 vs) ∧ gxLoop vs fg ft fe step fin (ds.drop (i + 1)) b' ρ2 = some (dF, ρF), fun b' H3 h => ⟨ds.length - (i + 1), by omega, rfl, by omega, h⟩, fun x H' hx => ?_⟩
          obtain ⟨sm, rp⟩ := hy x H' hx
          split at hl2
          · cases hl2
          · rename_i ρ3 e3
            refine hg c' P' F A O (L2.wipe σ vs) H' (wipeD ρ2 vs) x d ρ3 _ (@Rel.grow _ (tb' c' P') _ _ _ _ _ _ _ rl2 sm) rp e3 fun σ4 rel4 ln ag => ?_
            have hlen : σ4.length = σ.length := by rw [ln, wipe_length]
            have agv : ∀ j, j ∉ vs → σ4[j]? = σ[j]? := fun j hj => by
              rw [ag j (fun z => hj (his j z)), wipe_out hj]
            refine ⟨wipe_ext hlen agv, ?_⟩
            split at hl2
            · rename_i ρ4 e4
              refine ht c' P' F A O σ4 H' ρ3 _ _ _ rel4 e4 fun H3 t3 rel5 => ?_
              rw [if_pos rfl]
              split at hl2
              · rename_i rr ρ5 e5
                split at hl2
                · rename_i xd ex
                  refine he c' P' F A O σ4 H3 ρ4 _ _ _ rel5 e5 (@PostE.use _ (tb' c' P') _ _ _ _ _ _ _ _ _ _ fun H4 y t4 rel6 rb => ?_)
                  have tt4 : Tr O H2 O H4 := tr2.trans ((Tr.same sm).trans (t3.trans t4))
                  have rbd := @RB.rb _ (tb' c' P') _ _ _ _ _ _ _ _ _ rel6 rb ex
                  have rw6 := @Rel.wipe _ (tb' c' P') _ _ _ _ _ _ _ _ rel6 hlen agv
                  split at hl2
                  · rename_i b' es
                    exact cs.yd _ H4 Q b xd y _ _ rbd es ⟨ρ5, tt4, rw6, hl2⟩
                  · rename_i yd es
                    cases hl2
                    exact cs.yd _ H4 Q b xd y _ _ rbd es fun v' rp' => done H4 _ σ tt4 rw6 rfl v' rp' rfl
                  · cases hl2
                · cases hl2
              · cases hl2
            · rename_i ρ4 e4
              refine ht c' P' F A O σ4 H' ρ3 _ _ _ rel4 e4 fun H3 t3 rel5 => ?_
              rw [if_neg (by decide)]
              exact ⟨ρ4, tr2.trans ((Tr.same sm).trans t3), @Rel.wipe _ (tb' c' P') _ _ _ _ _ _ _ _ rel5 hlen agv, hl2⟩
            · cases hl2
        · rename_i ed
          have hge : ds.length ≤ i := List.getElem?_eq_none_iff.mp ed
          rw [List.drop_eq_nil_of_le hge] at hl2
          unfold gxLoop at hl2
          have e1 := Option.some.inj hl2
          have e2 : fin b = dF := congrArg Prod.fst e1
          have e3 : ρ2 = ρF := congrArg Prod.snd e1
          exact .inl ⟨wk2, cs.fin (Bad F A O) H Q b fun v rp => done H ρ2 σ tr2 rl2 e3 v (by rw [← e2]; exact rp) rfl⟩
      · cases hf
    · cases hf
  · rename_i x ρ1 q
    cases hf
    exact hi F A O σ H ρ _ _ _ rel q post
  · cases hf
end
end L3

namespace L3
open PySem L2
variable [Md]
section
variable [tb : Tb] {X : Cx} {W : WX}
/-- what is known of the def that makes code objects: its own at c, its table at P; nmf names what it makes -/
structure Mk (X : Cx) (c P : Addr) (nmf : Nat → Nat → Str) : Prop where
  code : X.env.code = .ref c
  tab : LamX.TabB X.base X.mg c P
  mem : (P, some nmf) ∈ tb.T
  uni : ∀ p ∈ tb.T, p.1 = P → ∀ g, p.2 = some g → g = nmf
theorem genOk_by {X : Cx} {scope : Scope} {own : List (Str × Nat)} (b : BlkOk X.N X.env.scope scope own) (h : (!scope.isCoroutine && (scope.names.all fun y => !decide (y.2 = .cell)) && decide (scope.names.lookup (".0" : Str) = some NameKind.local)) = true) : GenOk X scope own := by
  simp only [Bool.and_eq_true, Bool.not_eq_true', decide_eq_true_eq, decide_eq_false_iff_not, List.all_eq_true] at h
  exact ⟨b, h.1.1, h.1.2, h.2⟩
/-- a consumer's rule, plainly -/
theorem evg {β : Type} {Fin : VK → β → Hp → Prop} {Yd : VK → β → (β → Hp → Prop) → V → Hp → Prop} {step : StepF β} {fin : β → D} {b0 : β} (cs : GCons Fin Yd step fin) {c P : Addr} {nmf : Nat → Nat → Str} {call elt tg iter : Expr} {ifs : List Expr} {scope : Scope} {gpos : Pos} {own : List (Str × Nat)} {wi : TI} {g : TG} {tt : TT} {te : TE} {is : List Nat} {k : Nat}
    {fi : M (List D)} {fg : D → DEnv → Option DEnv} {ft : M Bool} {fe : M R} (M : Mk X c P nmf) (hnm : nmf gpos.line gpos.col = X.env.qual ++ "<genexpr>") (hi : EvI X W tg iter wi fi)
    (hg : ∀ (s : Shared) (H : Hp) (C : Addr) (code : Value) (A : Around) (fp : List Addr), ExG (genCx X s H scope C code A fp) is tg g fg)
    (ht : ∀ (s : Shared) (H : Hp) (C : Addr) (code : Value) (A : Around) (fp : List Addr), Room k A → PTs (genCx X s H scope C code A fp) ifs tt ∧ SndT X.mg W0 tt ft)
    (he : ∀ (s : Shared) (H : Hp) (C : Addr) (code : Value) (A : Around) (fp : List Addr), Room k A → Ev (genCx X s H scope C code A fp) W0 elt te fe)
    (his : ∀ i ∈ is, i ∈ own.map (·.2)) (hr : Room k X.A)
    (rule : MkSrc X (fun _ => True) c P → PI X tg iter wi → (∀ (s : Shared) (H : Hp) (C : Addr) (code : Value) (A : Around) (fp : List Addr), PG (genCx X s H scope C code A fp) tg g) →
      (∀ (s : Shared) (H : Hp) (C c' P' : Addr) (A : Around) (fp : List Addr), Room k A → PTs (genCx X s H scope C (.ref c') A fp) ifs tt) → (∀ (s : Shared) (H : Hp) (C c' P' : Addr) (A : Around) (fp : List Addr), Room k A → PE (genCx X s H scope C (.ref c') A fp) elt te) →
      PE X call (tGen wi (fun _ => True) P (some nmf) (X.env.qual ++ "<genexpr>") gpos g (fun _ _ => tt) (fun _ _ => te) (own.map (·.2)) b0 Fin Yd)) :
    Ev X W call (tGen wi (fun _ => True) P (some nmf) (X.env.qual ++ "<genexpr>") gpos g (fun _ _ => tt) (fun _ _ => te) (own.map (·.2)) b0 Fin Yd) (fGen fi (own.map (·.2)) fg ft fe step fin b0) := by
  refine ⟨rule (mkSrc_static M.code M.tab) hi.pe (fun s H C code A fp => (hg s H C code A fp).pe) (fun s H C c' P' A fp r => (ht s H C _ A fp r).1) (fun s H C c' P' A fp r => (he s H C _ A fp r).pe), ?_⟩
  refine snd_gen (fun _ _ => tb) (fun r _ _ => r) (fun r => r) cs hi.sd M.mem (fun p hp e g eg => ?_) (fun _ _ _ _ _ _ _ => trivial) (fun _ _ => (hg X.s_0 (fun _ => none) 0 .none X.A []).sd) his (fun _ _ => (ht X.s_0 (fun _ => none) 0 .none X.A [] hr).2) (fun _ _ => (he X.s_0 (fun _ => none) 0 .none X.A [] hr).sd)
  rw [M.uni p hp e g eg, hnm]
theorem ev_anyG {c P : Addr} {nmf : Nat → Nat → Str} {elt tg iter : Expr} {ifs : List Expr} {scope : Scope} {p pos gpos : Pos} (own : List (Str × Nat)) {wi : TI} {g : TG} {tt : TT} {te : TE} {is : List Nat} {k : Nat}
    {fi : M (List D)} {fg : D → DEnv → Option DEnv} {ft : M Bool} {fe : M R} (hr : Room (k + 1) X.A) (M : Mk X c P nmf) (hnm : nmf gpos.line gpos.col = X.env.qual ++ "<genexpr>") (hc : X.calm = true) (hN : X.N.Nodup) (hgl : Gl X "any") (hm : X.mg "any" = none) (S : GenOk X scope own) (hi : EvI X W tg iter wi fi)
    (hg : ∀ (s : Shared) (H : Hp) (C : Addr) (code : Value) (A : Around) (fp : List Addr), ExG (genCx X s H scope C code A fp) is tg g fg)
    (ht : ∀ (s : Shared) (H : Hp) (C : Addr) (code : Value) (A : Around) (fp : List Addr), Room k A → PTs (genCx X s H scope C code A fp) ifs tt ∧ SndT X.mg W0 tt ft)
    (he : ∀ (s : Shared) (H : Hp) (C : Addr) (code : Value) (A : Around) (fp : List Addr), Room k A → Ev (genCx X s H scope C code A fp) W0 elt te fe)
    (his : ∀ i ∈ is, i ∈ own.map (·.2)) (hs : ∀ v, genFold iter X.env v = pure v := by intro _; rfl)
    (hst : starEach [.GeneratorExp elt [⟨tg, iter, ifs, 0⟩] scope gpos] X.env = (false, eval (.GeneratorExp elt [⟨tg, iter, ifs, 0⟩] scope gpos) X.env) :: starEach [] X.env := by rfl) :
    Ev X W (.Call (.Name "any" p) [.GeneratorExp elt [⟨tg, iter, ifs, 0⟩] scope gpos] [] pos) (tAny wi (fun _ => True) P (some nmf) (X.env.qual ++ "<genexpr>") gpos g (fun _ _ => tt) (fun _ _ => te) (own.map (·.2))) (fGen fi (own.map (·.2)) fg ft fe stAny fnAny ()) :=
  evg cons_any M hnm hi hg ht he his (hr.mono (Nat.le_succ k)) fun hM hI pg pt pe => pe_any hc hr hN hgl hm hI S hM hs pg pt pe hst
theorem ev_allG {c P : Addr} {nmf : Nat → Nat → Str} {elt tg iter : Expr} {ifs : List Expr} {scope : Scope} {p pos gpos : Pos} (own : List (Str × Nat)) {wi : TI} {g : TG} {tt : TT} {te : TE} {is : List Nat} {k : Nat}
    {fi : M (List D)} {fg : D → DEnv → Option DEnv} {ft : M Bool} {fe : M R} (hr : Room (k + 1) X.A) (M : Mk X c P nmf) (hnm : nmf gpos.line gpos.col = X.env.qual ++ "<genexpr>") (hc : X.calm = true) (hN : X.N.Nodup) (hgl : Gl X "all") (hm : X.mg "all" = none) (S : GenOk X scope own) (hi : EvI X W tg iter wi fi)
    (hg : ∀ (s : Shared) (H : Hp) (C : Addr) (code : Value) (A : Around) (fp : List Addr), ExG (genCx X s H scope C code A fp) is tg g fg)
    (ht : ∀ (s : Shared) (H : Hp) (C : Addr) (code : Value) (A : Around) (fp : List Addr), Room k A → PTs (genCx X s H scope C code A fp) ifs tt ∧ SndT X.mg W0 tt ft)
    (he : ∀ (s : Shared) (H : Hp) (C : Addr) (code : Value) (A : Around) (fp : List Addr), Room k A → Ev (genCx X s H scope C code A fp) W0 elt te fe)
    (his : ∀ i ∈ is, i ∈ own.map (·.2)) (hs : ∀ v, genFold iter X.env v = pure v := by intro _; rfl)
    (hst : starEach [.GeneratorExp elt [⟨tg, iter, ifs, 0⟩] scope gpos] X.env = (false, eval (.GeneratorExp elt [⟨tg, iter, ifs, 0⟩] scope gpos) X.env) :: starEach [] X.env := by rfl) :
    Ev X W (.Call (.Name "all" p) [.GeneratorExp elt [⟨tg, iter, ifs, 0⟩] scope gpos] [] pos) (tAll wi (fun _ => True) P (some nmf) (X.env.qual ++ "<genexpr>") gpos g (fun _ _ => tt) (fun _ _ => te) (own.map (·.2))) (fGen fi (own.map (·.2)) fg ft fe stAll fnAll ()) :=
  evg cons_all M hnm hi hg ht he his (hr.mono (Nat.le_succ k)) fun hM hI pg pt pe => pe_all hc hr hN hgl hm hI S hM hs pg pt pe hst
theorem ev_sumG {c P : Addr} {nmf : Nat → Nat → Str} {elt tg iter : Expr} {ifs : List Expr} {scope : Scope} {p pos gpos : Pos} (own : List (Str × Nat)) {wi : TI} {g : TG} {tt : TT} {te : TE} {is : List Nat} {k : Nat}
    {fi : M (List D)} {fg : D → DEnv → Option DEnv} {ft : M Bool} {fe : M R} (hr : Room (k + 1) X.A) (M : Mk X c P nmf) (hnm : nmf gpos.line gpos.col = X.env.qual ++ "<genexpr>") (hc : X.calm = true) (hN : X.N.Nodup) (hgl : Gl X "sum") (hm : X.mg "sum" = none) (S : GenOk X scope own) (hi : EvI X W tg iter wi fi)
    (hg : ∀ (s : Shared) (H : Hp) (C : Addr) (code : Value) (A : Around) (fp : List Addr), ExG (genCx X s H scope C code A fp) is tg g fg)
    (ht : ∀ (s : Shared) (H : Hp) (C : Addr) (code : Value) (A : Around) (fp : List Addr), Room k A → PTs (genCx X s H scope C code A fp) ifs tt ∧ SndT X.mg W0 tt ft)
    (he : ∀ (s : Shared) (H : Hp) (C : Addr) (code : Value) (A : Around) (fp : List Addr), Room k A → Ev (genCx X s H scope C code A fp) W0 elt te fe)
    (his : ∀ i ∈ is, i ∈ own.map (·.2)) (hs : ∀ v, genFold iter X.env v = pure v := by intro _; rfl)
    (hst : starEach [.GeneratorExp elt [⟨tg, iter, ifs, 0⟩] scope gpos] X.env = (false, eval (.GeneratorExp elt [⟨tg, iter, ifs, 0⟩] scope gpos) X.env) :: starEach [] X.env := by rfl) :
    Ev X W (.Call (.Name "sum" p) [.GeneratorExp elt [⟨tg, iter, ifs, 0⟩] scope gpos] [] pos) (tSumG wi (fun _ => True) P (some nmf) (X.env.qual ++ "<genexpr>") gpos g (fun _ _ => tt) (fun _ _ => te) (own.map (·.2))) (fGen fi (own.map (·.2)) fg ft fe stSum fnSum 0) :=
  evg cons_sum M hnm hi hg ht he his (hr.mono (Nat.le_succ k)) fun hM hI pg pt pe => pe_sumG hc hr hN hgl hm hI S hM hs pg pt pe hst
end
end L3

namespace L3
open PySem PySem.Spec PyProof.Rows L2 LamX
/-! ### lambdas -/
structure LamOk (X : Cx) (scope : Scope) (own : List (Str × Nat)) : Prop where
  blk : BlkOk X.N X.env.scope scope own
  co : scope.isCoroutine = false
  gen : scope.isGenerator = false
  cell : ∀ y ∈ scope.names, y.2 ≠ .cell
theorem lamOk_by {X : Cx} {scope : Scope} {own : List (Str × Nat)} (b : BlkOk X.N X.env.scope scope own) (h : (!scope.isCoroutine && !scope.isGenerator && (scope.names.all fun y => !decide (y.2 = .cell))) = true) : LamOk X scope own := by
  simp only [Bool.and_eq_true, Bool.not_eq_true', decide_eq_true_eq, decide_eq_false_iff_not, List.all_eq_true] at h
  exact ⟨b, h.1.1, h.1.2, h.2⟩
section
variable {X : Cx} {pins : List (Addr × Obj)} {σ : L2.St} {H HZ : Hp} {s s1 : Shared}
theorem LamOk.has {scope : Scope} {own : List (Str × Nat)} (S : LamOk X scope own) (ok : X.Ok) : ∀ y ∈ scope.names, y.2 = .free → ∃ c, X.env.cells.lookup y.1 = some c := fun y hy e => by
  rcases S.blk.free y hy e with k | k
  · exact ok.has _ (.inl k)
  · exact ok.has _ (.inr k)
theorem lam_start3 {A : Around} {outer : List Env} {E : XK} {scope : Scope} {own : List (Str × Nat)} {f c' : Addr} {h₁ : Heap} {tk : Nat} {m : Str → Option Value} {σ' : L2.St} (I : Inv X pins σ H s) (L : LamOk X scope own) (hN : X.N.Nodup) (e0 : Env0 X.prog X.w X.K X.mg X.base A outer s1 HZ) (hd : A.handled = none)
    (un : Un (frs X.stack) [] H HZ s.heap s1.heap) (hns : h₁.Ns s1.heap.objs.size m) (kp : ∀ b o, s1.heap.get? b = some o → h₁.get? b = some o) (hl : σ'.length = σ.length)
    (hσ : ∀ (i : Nat) v, σ'[i]? = some (some v) → (i ∉ own.map (·.2) ∧ σ[i]? = some (some v)) ∨ ∃ y u, (y, i) ∈ own ∧ scope.names.lookup y = some .local ∧ m y = some u ∧ RelV v u) :
    Inv (lamCx X A outer s1 HZ E scope f c') [] σ' HZ { s1 with heap := h₁, toks := tk } := by
  have hfree := L.has I.ok
  have cm : ∀ {y c}, (cloFrom X.env.cells scope.names []).lookup y = some c → X.env.cells.lookup y = some c := fun {y c} e => by
    rcases cloFrom_mem (PySem.mem_of_lookup e) with hm | ⟨h1, h2⟩
    · cases hm
    · obtain ⟨c1, hc⟩ := hfree _ h1 rfl
      have hc : X.env.cells.lookup y = some c1 := hc
      have e2 : c = c1 := by
        rw [h2, hc] <;> rfl
      rw [e2]
      exact hc
  have look : ∀ {y}, scope.names.lookup y = some .free → ∃ c, (cloFrom X.env.cells scope.names []).lookup y = some c := fun {y} hl => by
    have hy : (y, NameKind.free) ∈ scope.names := PySem.mem_of_lookup hl
    exact mem_lookup (cloFrom_has (cells := X.env.cells) (acc := []) hy)
  have cellK : ∀ {c : Addr} {v : Option Value}, H c = none → s.heap.IsCell c v → h₁.IsCell c v := fun {c v} n ⟨o, ho, hd⟩ => by
    obtain ⟨sl, q⟩ := un.any ho n (by simp)
    exact ⟨_, kp _ _ q, hd⟩
  have noA : ∀ b : Addr, b ∉ (lamCx X A outer s1 HZ E scope f c').ex := fun b z => absurd (show b ∈ ([] : List Addr) from z) (by simp)
  refine ⟨⟨e0.mod, L.blk.kind, rfl, rfl, Nat.le_refl _, fun y z c e1 e2 => I.ok.inj y z c (cm e1) (cm e2), fun y hy => ?_, fun y c z _ => ?_, fun _ => hd, Around.frames_deeper e0.frames, .inr ⟨rfl, rfl⟩, fun b z => absurd z (noA b), e0.bs, e0.bsz, fun b _ _ => noA b,
      fun b z => absurd z (noA b), e0.funs, e0.frf⟩,
    rfl, e0.bare, Un.kept kp, ⟨_, hns, fun i y v e1 e2 e3 => ?_⟩, fun y c e => ?_, e0.hok.fresh (Nat.le_refl _), fun y c e => ?_, fun q hq => absurd (show q ∈ ([] : List (Addr × Obj)) ++ [] from hq) (by simp), e0.hok.kept kp, hl.trans I.len⟩
  · have hy : scope.names.lookup y = some .cell ∨ scope.names.lookup y = some .free := hy
    rcases hy with hy | hy
    · exact absurd rfl (L.cell _ (PySem.mem_of_lookup hy))
    · exact look hy
  · have z : false = true := z
    cases z
  · have e3 : Vis scope y := e3
    rcases hσ i v e2 with ⟨hni, e2'⟩ | ⟨y', u, hm, hloc, hmy, rv⟩
    · have no : ¬ (scope.names.lookup y = some .local ∨ scope.names.lookup y = some .cell) := fun hh => by
        have key : ∀ k, scope.names.lookup y = some k → k = .local ∨ k = .cell → False := fun k hk hk' => by
          rcases L.blk.own _ (PySem.mem_of_lookup hk) hk' with e' | e'
          · obtain ⟨p, hp, hpy⟩ := List.mem_map.mp e'
            have e3 := L.blk.ix p hp
            have : p.1 = y := hpy
            rw [this] at e3
            exact hni (List.mem_map.mpr ⟨p, hp, nodup_ix hN e3 e1⟩)
          · exact e' (List.mem_of_getElem? e1)
        rcases hh with h | h
        · exact key _ h (.inl rfl)
        · exact key _ h (.inr rfl)
      rcases e3 with k | k | k
      · exact absurd (.inl k) no
      · exact absurd (.inr k) no
      · obtain ⟨m', hn, hl'⟩ := I.loc
        have hvis : Vis X.env.scope y := (L.blk.free _ (PySem.mem_of_lookup k) rfl).elim (fun k => .inr (.inl k)) (fun k => .inr (.inr k))
        obtain ⟨w', r, q⟩ := hl' i y v e1 e2' hvis
        obtain ⟨c2, h2⟩ := look k
        refine ⟨w', r, .inr ⟨.inr k, c2, h2, ?_⟩⟩
        have c1 := cm h2
        rcases q with ⟨k', _⟩ | ⟨_, c3, e', z⟩
        · have k' : X.env.scope.names.lookup y = some .local := k'
          rcases L.blk.free _ (PySem.mem_of_lookup k) rfl with k2 | k2 <;> rw [show X.env.scope.names.lookup y = _ from k2] at k' <;> cases k'
        · rw [c1] at e'
          cases e'
          exact cellK (I.freeC y _ c1) z
    · have hy : y = y' := by
        have e5 := L.blk.ix _ hm
        exact Option.some.inj (e1.symm.trans e5)
      subst hy
      exact ⟨u, rv, .inl ⟨hloc, hmy⟩⟩
  · obtain ⟨w', z⟩ := I.cell y c (cm e)
    exact ⟨w', cellK (I.freeC y c (cm e)) z⟩
  · obtain ⟨v, o, ho, hd⟩ := I.cell y c (cm e)
    exact un.free c o ho (I.freeC y c (cm e)) (by simp)
end
section
variable {M : Model} {A : Around} {E : Value → Shared → Prop} {s : Shared} {name qual : Str} {params : Arguments} {body : Expr} {scope : Scope} {env : Env} {c P : Addr} {ps : Array Value} {pos : Pos} {firstLine : Nat} {mg : Str → Option Value}
  {clos : List (Str × Addr)} {Q : Value → Shared → Prop}
/-- as kla_makeTail, with the new code object's own table -/
theorem lam_makeTail (hcl : closureFor scope env = pure clos) (hge0 : env.globals = mainGlobals) (hg : s.heap.Ns mainGlobals mg) (hcode : env.code = .ref c) (C : PySem.W.CodeHd s.heap c P) (hP : s.heap.get? P = some (PySem.W.tabObj ps)) (ht : TriplesOk ps.toList)
    (hnf : codeAmong pos ps.toList = none) (hgP : mainGlobals ≠ P) (hb : s.heap.BuiltinsAt mg P)
    (h : ∀ c' ctv h' tk, Heap.ExtBut P s.heap h' → s.heap.objs.size ≤ c' → c' < h'.objs.size → h'.CodeRec (.ref c') qual → h'.get? P = some (PySem.W.tabObj (ps ++ #[rawInt pos.line, rawInt pos.col, .ref c'])) → (∃ P', s.heap.objs.size ≤ P' ∧ h'.IsCode c' P' #[] ∧ h'.TableAt c' P' #[]) →
      Q (.ref h'.objs.size) { s with heap := h'.push (PySem.W.kla_obj name qual params body scope clos ((mg "__name__").getD .none) c' ctv), toks := tk }) :
    wpAny M A (makeFunction name qual params (.expr body) scope env [] [] [] pos firstLine) Q E s := by
  rw [makeFunction_eq]
  simp only [List.zip_nil_right, List.filterMap_nil, List.isEmpty_nil, if_true, pure_bind]
  obtain ⟨bm, ob, hbm, hne0, _, hneP, hbo, hcls, hdict, hdata⟩ := hb
  unfold makeTail
  rw [hcl, hge0]
  refine wpAny_bind (wpAny_pure ?_)
  cases clos with
  | nil =>
    simp only [List.isEmpty_nil, if_true]
    refine wpAny_bind (wpAny_pure ?_)
    refine wpAny_bind (wpAny_functionCodeX hcode (C.code hP ht) (C.tab hP) hnf fun c' h' tk hx hge hlt _ hrec htb hnew => ?_)
    have hg' := hg.extBut hx hgP
    refine wpAny_bind (wpAny_builtinsFor hg' hbm hne0 (hx _ _ hneP hbo) hcls hdict hdata ?_)
    refine wpAny_bind (wpAny_nsGet hg' ?_)
    exact wpAny_bind (wpAny_pure (wpAny_newObj_type (h c' .none h' tk hx hge hlt hrec htb.2 hnew) (by size_fits)))
  | cons q r =>
    simp only [List.isEmpty_cons, Bool.false_eq_true, if_false]
    refine wpAny_bind (wpAny_newTextTuple ?_)
    refine wpAny_bind (wpAny_functionCodeX hcode ((C.keeps fun b o e => Heap.get?_push_of_some _ e).code (Heap.get?_push_of_some _ hP) ht) ((C.keeps fun b o e => Heap.get?_push_of_some _ e).tab (Heap.get?_push_of_some _ hP)) hnf fun c' h' tk hx hge hlt _ hrec htb hnew => ?_)
    have hg' := (hg.push _).extBut hx hgP
    have hx' : Heap.ExtBut P s.heap h' := fun b o hb' e => hx b o hb' (Heap.get?_push_of_some _ e)
    have hge' : s.heap.objs.size ≤ c' := Nat.le_trans (by rw [Heap.size_push]; omega) hge
    refine wpAny_bind (wpAny_builtinsFor hg' hbm hne0 (hx' _ _ hneP hbo) hcls hdict hdata ?_)
    refine wpAny_bind (wpAny_nsGet hg' ?_)
    obtain ⟨P', hp1, hp2⟩ := hnew
    exact wpAny_bind (wpAny_pure (wpAny_newObj_type (h c' _ h' tk hx' hge' hlt hrec htb.2 ⟨P', Nat.le_trans (by rw [Heap.size_push]; omega) hp1, hp2⟩) (by size_fits)))
end
/-- the code object c' stands in the table at P for the place pos -/
def AtPl (P : Addr) (pos : Pos) (c' : Addr) (H : Hp) : Prop := ∃ ps : Array Value, H P = some (.tbl ps) ∧ codeAmong pos ps.toList = some (.ref c')
theorem among_more {pos : Pos} {v : Value} (m : List Value) : ∀ l : List Value, codeAmong pos l = some v → codeAmong pos (l ++ m) = some v := by
  intro l
  fun_induction codeAmong pos l with
  | case1 line t col u c rest e =>
    intro h
    show (if (line == pos.line && col == pos.col) = true then some c else codeAmong pos (rest ++ m)) = some v
    rw [if_pos e]; exact h
  | case2 line t col u c rest e ih =>
    intro h
    show (if (line == pos.line && col == pos.col) = true then some c else codeAmong pos (rest ++ m)) = some v
    rw [if_neg e]; exact ih h
  | case3 l _ => intro h; cases h
theorem among_new {pos : Pos} {c : Value} (l : List Value) (h : TriplesOk l) (hn : codeAmong pos l = none) : codeAmong pos (l ++ [rawInt pos.line, rawInt pos.col, c]) = some c := codeAmong_snoc l h hn
theorem AtPl.code {P : Addr} {pos : Pos} {c' : Addr} {H : Hp} {nmf : Nat → Nat → Str} (h : AtPl P pos c' H) (t : TabOk H (some nmf) P) : ∃ P', H c' = some (CodeT c' P' (nmf pos.line pos.col)) := by
  obtain ⟨ps, h1, h2⟩ := h
  obtain ⟨cf, pf, nf, hP, ht, hcs, hrs⟩ := t
  rw [h1] at hP
  cases hP
  obtain ⟨e, hc, hn⟩ := hcs pos _ h2
  injection e with e
  rw [e]
  exact ⟨pf pos, by rw [hc, hn nmf rfl]⟩
section
variable {X : Cx} {pins : List (Addr × Obj)} {σ : L2.St} {H : Hp} {s : Shared}
/-- the lambda is made -/
theorem lam_make3 {nmf : Nat → Nat → Str} {MkR : Hp → Prop} {c P : Addr} {params : Arguments} {body : Expr} {scope : Scope} {own : List (Str × Nat)} {pos : Pos} {E : Value → Shared → Prop} {Q : Value → Shared → Prop} (I : Inv X pins σ H s) (L : LamOk X scope own) (hM : MkSrc X MkR c P) (hmk : MkR H)
    (hT : TabOk H (some nmf) P) (hnm : nmf pos.line pos.col = X.env.qual ++ "<lambda>") (hdef : defaultsOf params X.env = ([], []))
    (h : ∀ (f c' P' : Addr) (pm ctv : Value) (H1 : Hp) (s' : Shared), Inv X pins σ H1 s' → GrowT P (X.env.qual ++ "<lambda>") pos H H1 c' P' → H1 c' = some (CodeT c' P' (X.env.qual ++ "<lambda>")) →
      s'.heap.get? f = some (PySem.W.kla_obj "<lambda>" (X.env.qual ++ "<lambda>") params body scope (cloFrom X.env.cells scope.names []) pm c' ctv) → H1 f = none → f ∉ frs X.stack → s.heap.objs.size ≤ f → AtPl P pos c' H1 → (∀ b o, b ≠ P → s.heap.get? b = some o → s'.heap.get? b = some o) → Q (.ref f) s') :
    wpAny (model X.prog X.w) X.A (eval (.Lambda params body scope pos) X.env) Q E s := by
  obtain ⟨cd, bP, hgP⟩ := hM.2 pins σ H s I hmk
  obtain ⟨cf, pf, nf, hP, ht, hcs, hrs⟩ := hT
  rename_i ps
  refine PySem.W.kla_eval hdef ?_
  have hP' : s.heap.get? P = some { cls := .none, data := .fields ps } := I.hok P _ hP
  have nofr : ∀ f, s.heap.objs.size ≤ f → f ∉ frs X.stack := fun f hf z => by
    rcases List.mem_cons.mp (I.stkSub _ z) with e | e
    · have h1 := I.lt
      rw [← e] at h1
      exact Nat.lt_irrefl _ (Nat.lt_of_lt_of_le h1 hf)
    · exact I.nofs hf e
  cases hc : codeAmong pos ps.toList with
  | none =>
    refine lam_makeTail (mg := X.mg) (c := c) (P := P) (ps := ps) (closure_ok (L.has I.ok)) I.ok.glob (I.mod.glob.keeps I.bk) hM.1 cd hP' ht hc hgP bP fun c' ctv h' tk hx hge hlt hrec htb hnew => ?_
    obtain ⟨P', hge', isC, tabP⟩ := hnew
    have hne : c' ≠ P' := by
      obtain ⟨_, _, _, _, _, _, _, _, _, _, _, _, _, _, _, _, _, _, _, _, z⟩ := isC
      exact z
    have nC : H c' = none := I.hok.fresh hge
    have nQ : H P' = none := I.hok.fresh hge'
    have cp : CodeP c' P' (X.env.qual ++ "<lambda>") h' := by
      obtain ⟨c2, oc, vs, t, e2, r⟩ := hrec
      cases e2
      exact ⟨PySem.W.CodeHd.of isC tabP, oc, vs, t, r⟩
    have hsz : s.heap.objs.size ≤ h'.objs.size := Nat.le_trans hge (Nat.le_of_lt hlt)
    have I1 := inv_grow (t' := tk) (g' := s.gens) I hP (fun b o hb e => hx b o hb e) htb hge cp hge' hne tabP.2 I.bare
    have I2 := I1.kept (t' := tk) (h' := h'.push (PySem.W.kla_obj "<lambda>" (X.env.qual ++ "<lambda>") params body scope (cloFrom X.env.cells scope.names []) ((X.mg "__name__").getD .none) c' ctv)) fun b o e => Heap.get?_push_of_some _ e
    refine h h'.objs.size c' P' ((X.mg "__name__").getD .none) ctv _ _ I2 (.new ps hP nC nQ hne rfl) ?_ (Heap.get?_push_size _ rfl) ?_ (nofr _ hsz) hsz ⟨_, ?_, by rw [Array.toList_append]; exact among_new _ ht hc⟩ ?_
    · unfold grown; rw [upd_ne hne, upd_same]
    · exact I1.hok.fresh (Nat.le_refl _)
    · unfold grown; rw [upd_ne (fun z => by rw [z, nQ] at hP; cases hP), upd_ne (fun z => by rw [z, nC] at hP; cases hP), upd_same]
    · exact fun b o hb e => Heap.get?_push_of_some _ (hx b o hb e)
  | some cv =>
    obtain ⟨ec, hcc, hn⟩ := hcs pos cv hc
    subst ec
    have en : nf pos = X.env.qual ++ "<lambda>" := by rw [hn nmf rfl, hnm]
    refine PySem.W.kla_makeFunctionHit (mg := X.mg) (c := c) (P := P) (ps := ps) (closure_ok (L.has I.ok)) I.ok.glob (I.mod.glob.keeps I.bk) hM.1 cd hP' ht hc bP fun ctv h' tk hx hsz => ?_
    have I1 : Inv X pins σ H { s with heap := h'.push (PySem.W.kla_obj "<lambda>" (X.env.qual ++ "<lambda>") params body scope (cloFrom X.env.cells scope.names []) ((X.mg "__name__").getD .none) (cf pos) ctv), toks := tk } := I.kept fun b o e => Heap.get?_push_of_some _ (hx b o e)
    exact h h'.objs.size (cf pos) (pf pos) ((X.mg "__name__").getD .none) ctv H _ I1 (.hit rfl ⟨_, hcc⟩ (hrs pos _ hc)) (by rw [← en]; exact hcc) (Heap.get?_push_size _ rfl) (I.hok.fresh hsz) (nofr _ hsz) hsz ⟨ps, hP, hc⟩ fun b o _ e => Heap.get?_push_of_some _ (hx b o e)
end
theorem codeT_rec {P : Program} {w : World} {H : Hp} {h : Heap} {c' P' : Addr} {nm : Str} (hok : HOk P w H h) (e : H c' = some (CodeT c' P' nm)) : h.CodeRec (.ref c') nm := by
  obtain ⟨⟨_, oc, vs, t, h1, h2, h3⟩, _, _⟩ := hok _ _ e
  exact ⟨c', oc, vs, t, rfl, h1, h2, h3⟩
end L3

namespace L3
open PySem PySem.Spec PyProof.Rows L2 LamX
theorem wipe_len0 (σ : L2.St) : wipe σ [] = σ := rfl
section
variable {X : Cx} {pins : List (Addr × Obj)} {σ : L2.St} {H HZ : Hp} {s s1 : Shared}
theorem takes_lam {X : Cx} {A : Around} {outer : List Env} {s : Shared} {H : Hp} {E : XK} {scope : Scope} {f c' : Addr} : Takes (lamCx X A outer s H E scope f c') (fun cls d _ H' => E cls d H') := takes_of rfl rfl rfl rfl
theorem owns_lam {X : Cx} {A : Around} {outer : List Env} {s : Shared} {H : Hp} {E : XK} {scope : Scope} {f c' : Addr} : PassesOwn (model X.prog X.w) (lamCx X A outer s H E scope f c').A (lamCx X A outer s H E scope f c').env (lamCx X A outer s H E scope f c').xe := PassesOwn.leaving
/-- x(), in the def that got the lambda -/
theorem pe_act3 {CXg : CXT} {Eg : XK} {Ng : List Str} {qg : Str} {sg : Scope} {g f c' P' : Addr} {cdg pm ctv : Value} {params : Arguments} {body : Expr} {scope : Scope} {k i : Nat} {a : Str} {pn : List (Addr × Obj)} {xe : Value → Shared → Prop} {W : WX} {E : XK} {tb : TE} {p1 p2 : Pos}
    (I : Inv X pins σ H s) (L : LamOk X scope []) (hNX : X.N.Nodup) (hf : s.heap.get? f = some (PySem.W.kla_obj "<lambda>" (X.env.qual ++ "<lambda>") params body scope (cloFrom X.env.cells scope.names []) pm c' ctv)) (hfn : H f = none) (hfr : f ∉ frs X.stack)
    (hbind : bindArgs (PySem.W.kla_fn "<lambda>" (X.env.qual ++ "<lambda>") params body scope (cloFrom X.env.cells scope.names []) pm (.ref c') ctv) ⟨[], []⟩ = pure [])
    (tk : Takes ((cxOf CXg X.prog X.w X.K X.mg X.base Ng qg sg g cdg X.A X.stack s H Eg).tr pn xe) W) (hW : ∀ cls d σ' H', E cls d H' → W cls d σ' H') (hr : Room (k + 1) (X.A.deeper (envOfC qg sg s.heap.objs.size g cdg)))
    (hbody : ∀ (A : Around) (outer : List Env) (s : Shared) (H : Hp), Room k (A.deeper (lamEnv X scope s.heap.objs.size f c')) → PE (lamCx X A outer s H E scope f c') body tb)
    (hN : Ng[i]? = some a) (hv : Vis sg a) (hd : (a == ("__debug__" : Str)) = false := by decide) (hcd : (a == ("__classdict__" : Str)) = false := by decide) :
    PE ((cxOf CXg X.prog X.w X.K X.mg X.base Ng qg sg g cdg X.A X.stack s H Eg).tr pn xe) (.Call (.Name a p1) [] [] p2)
      (fun σZ HZ Q => σZ[i]? = some (some (.ref f)) ∧ HZ c' = some (CodeT c' P' (X.env.qual ++ "<lambda>")) ∧ tb σ HZ Q) := by
  refine ⟨fun pinsZ sZ σZ HZ Q IZ h => ?_⟩
  obtain ⟨hs, hc, ht⟩ := h
  refine wpAny_Call_Name_kw (thn ((pe_var (pos := p1) (i := i) hN hv hd hcd).run pinsZ sZ σZ HZ (fun v H1 => v = .ref f ∧ H1 = HZ) IZ ⟨.ref f, hs, rfl, rfl⟩) fun u s1 ⟨v, H1, I1, r1, q1⟩ => ?_)
  obtain ⟨ev, eH⟩ := q1
  subst ev
  rw [eH] at I1
  obtain rfl : u = Value.ref f := r1
  have of1 : s1.heap.get? f = some (PySem.W.kla_obj "<lambda>" (X.env.qual ++ "<lambda>") params body scope (cloFrom X.env.cells scope.names []) pm c' ctv) := I1.base.keep f _ hf hfn hfr (fun z => nomatch (show f ∈ ([] : List Addr) from z))
  refine PySem.W.callWith_F0 ⟨_, _, _, _, of1⟩ ?_
  have un : Un (frs X.stack) [] H HZ s.heap s1.heap := I1.base
  have rc : codeAny (model X.prog X.w) (X.A.deeper (envOfC qg sg s.heap.objs.size g cdg)) (.call (.ref f) ⟨[], []⟩) (CR (L2.CX X.prog X.w) (envOfC qg sg s.heap.objs.size g cdg :: X.stack) X.prog X.w HZ s1 Q E) s1 := by
    refine PySem.W.kla_callFunE hr.depth of1 rfl L.co L.gen rfl (codeT_rec I1.hok hc) ?_
    rw [hbind]
    refine wpAny_pure (wpAny_newFunctionEnv L.cell (fun y hy => absurd hy (by simp)) (fun h₁ hns hsb => ⟨I1.nolimit.fresh _ hsb, ?_⟩) L.blk.kind)
    show codeAny _ _ (.expr body (lamEnv X scope s1.heap.objs.size f c')) _ _
    have kp : ∀ b o, s1.heap.get? b = some o → h₁.get? b = some o := fun b o e => hsb.extBut b o (Nat.ne_of_lt (Heap.lt_size e)) (Heap.get?_push_of_some _ e)
    have J : Inv (lamCx X (X.A.deeper (envOfC qg sg s.heap.objs.size g cdg)) (envOfC qg sg s.heap.objs.size g cdg :: X.stack) s1 HZ E scope f c') [] σ HZ { s1 with heap := h₁, toks := s1.toks + ([] : List (Str × Value)).length } :=
      lam_start3 I L hNX I1.env0 hr.hd un hns kp rfl fun i v e => .inl ⟨by simp, e⟩
    refine PySem.W.kla_codeExpr (wpAny_mono ((hbody _ _ s1 HZ (hr.deeper _)).run [] _ _ HZ Q J ht) (fun v s' hq => ?_) fun e s' hq => hq)
    obtain ⟨w', H', J', rv, q⟩ := hq
    exact ⟨w', H', J'.os, J'.bare, J'.base, J'.hok, rv, q⟩
  have hx : Passes (L2.CX X.prog X.w) ((cxOf CXg X.prog X.w X.K X.mg X.base Ng qg sg g cdg X.A X.stack s H Eg).tr pn xe) E := passes_call tk hW
  refine wpAny_call (codeAny_mono rc fun r s' hq => ?_)
  cases r with
  | error e => exact hx pinsZ σZ HZ s1 e s' I1 hq
  | ok fl =>
    cases fl with
    | ret u => exact I1.after hq
    | next => exact False.elim hq
    | brk => exact False.elim hq
    | cont => exact False.elim hq
end
/-- the def that calls what it got -/
def GivesTo3 (X : Cx) (Ng : List Str) (x : Str) (sg : Scope) (g : Addr) (cdg : Value) (bg : List Stmt) (a : Str) (q : Str) (TT : (XK → Hp → VK → Prop) → Hp → VK → Prop) : Prop :=
  ∀ (f c' P' : Addr) (s : Shared) (H : Hp) (Q : VK) (tl : XK → Hp → VK → Prop),
    (∀ (W : WX) (pn : List (Addr × Obj)) (xe : Value → Shared → Prop) (E : XK) (p1 p2 : Pos), Takes ((cxOf C8.CX0 X.prog X.w X.K X.mg X.base Ng x sg g cdg X.A X.stack s H C8.E0).tr pn xe) W → (∀ cls d σ' H', E cls d H' → W cls d σ' H') →
      PE ((cxOf C8.CX0 X.prog X.w X.K X.mg X.base Ng x sg g cdg X.A X.stack s H C8.E0).tr pn xe) (.Call (.Name a p1) [] [] p2) (fun σZ HZ Q => σZ[0]? = some (some (.ref f)) ∧ HZ c' = some (CodeT c' P' q) ∧ tl E HZ Q)) →
    H c' = some (CodeT c' P' q) → TT tl H Q →
    ∃ t, PSs (cxOf C8.CX0 X.prog X.w X.K X.mg X.base Ng x sg g cdg X.A X.stack s H C8.E0).nox bg t ∧ t { nx := fun _ H' => Q .non H', rt := Q } (L2.start Ng [.ref f]) H
def tLam3 (MkR : Hp → Prop) (P : Addr) (nmf : Nat → Nat → Str) (nm : Str) (lpos : Pos) (TT : (XK → Hp → VK → Prop) → Hp → VK → Prop) (t : XK → TE) : TE := fun σ H Q => MkR H ∧ TabOk H (some nmf) P ∧ ∀ H1 c' P', GrowT P nm lpos H H1 c' P' → TT (fun E H' Q' => t E σ H' Q') H1 Q
section
variable {X : Cx}
/-- x(lambda: body) -/
theorem pe_lamcall3 {nmf : Nat → Nat → Str} {MkR : Hp → Prop} {TT : (XK → Hp → VK → Prop) → Hp → VK → Prop} {x a : Str} {g c P : Addr} {k : Nat} {pg : Arguments} {bg : List Stmt} {sg : Scope} {dV kV doc pm cdv ct oc : Value} {an od : Option Addr} {osl : Array (Option Value)} {Ng : List Str}
    {params : Arguments} {body : Expr} {scope : Scope} {t : XK → TE} {p lpos pos : Pos} (hg : Gl X x) (hm : X.mg x = some (.ref g)) (hk : PySem.W.keepIn X.K (.ref g) = true)
    (lk : X.K.lookup g = some ⟨oc, od, .func (PySem.W.fnOf x x pg bg sg dV kV doc pm an cdv ct), osl⟩) (hcg : PySem.W.codeIn X.K cdv x = true) (hb : L2.Binds X.K (PySem.W.fnOf x x pg bg sg dV kV doc pm an cdv ct) [a] []) (Sg : FnScope Ng [a] sg) (hNg : Ng[0]? = some a) (hva : Vis sg a)
    (hG : GivesTo3 X Ng x sg g cdv bg a (X.env.qual ++ "<lambda>") TT) (hM : MkSrc X MkR c P) (hnm : nmf lpos.line lpos.col = X.env.qual ++ "<lambda>") (hr : Room (k + 2) X.A) (L : LamOk X scope []) (hNX : X.N.Nodup) (hdef : defaultsOf params X.env = ([], []))
    (hbind : ∀ (q : Str) (cl : List (Str × Addr)) (pm cv ctv : Value), bindArgs (PySem.W.kla_fn "<lambda>" q params body scope cl pm cv ctv) ⟨[], []⟩ = pure [])
    (hbody : ∀ (A : Around) (outer : List Env) (s : Shared) (H : Hp) (E : XK) (f c' : Addr), Room k (A.deeper (lamEnv X scope s.heap.objs.size f c')) → PE (lamCx X A outer s H E scope f c') body (t E))
    (hdb : (x == ("__debug__" : Str)) = false := by decide) (hd : (a == ("__debug__" : Str)) = false := by decide) (hcd : (a == ("__classdict__" : Str)) = false := by decide) :
    PE X (.Call (.Name x p) [.Lambda params body scope lpos] [] pos) (tLam3 MkR P nmf (X.env.qual ++ "<lambda>") lpos TT t) := by
  refine ⟨fun pins s σ H Q I h => ?_⟩
  obtain ⟨hmk, hT, h⟩ := h
  refine wpAny_Call_Name_kw (ld_glob I hg hm ?_ hdb)
  refine PySem.W.callWith_K (h₀ := X.base) I.ok.mod.kin hk ?_ (by rfl) (by rfl)
  show wpAny _ _ (spliced ((false, eval (.Lambda params body scope lpos) X.env) :: backTo pos (starEach [] X.env))) _ _ s
  refine Calls.spliced_cons (lam_make3 I L hM hmk hT hnm hdef fun f c' P' pm' ctv H1 s' I1 gr hco hf hfn hfr _ _ _ => ?_)
  refine Calls.spliced_nil ⟨I1.kIn, ?_⟩
  have rc : codeAny (model X.prog X.w) X.A (.call (.ref g) ⟨[.ref f], []⟩) (CR C8.CX0 X.stack X.prog X.w H1 s' Q C8.E0) s' := by
    refine run_ofS (N := Ng) (ps := [a]) (us := [.ref f]) (vs := [.ref f]) lk hcg Sg hr I1.env0 (hb s' [.ref f] I1.kIn rfl) (.cons rfl .nil) rfl fun hr' => ?_
    obtain ⟨t', ht', hq'⟩ := hG f c' P' s' H1 Q (fun E H' Q' => t E σ H' Q') (fun W pn xe E p1 p2 tk hW => pe_act3 (P' := P') (i := 0) I1 L hNX hf hfn hfr (hbind _ _ _ _ _) tk hW hr' (fun A outer s H hr2 => hbody A outer s H E f c' hr2) hNg hva hd hcd) hco (h H1 c' P' gr)
    exact ⟨t', ht'.nox, hq'⟩
  refine wpAny_call (codeAny_mono rc fun r s2 hq => ?_)
  cases r with
  | error e => exact (show False from hq).elim
  | ok fl =>
    cases fl with
    | ret u => exact I1.after hq
    | next => exact False.elim hq
    | brk => exact False.elim hq
    | cont => exact False.elim hq
/-- the clauses: except x: return text -/
def toldE (K : PySem.W.Frag) (Q : VK) : List (Value × Str) → XK
  | [] => fun _ _ _ => False
  | (c, r) :: l => fun cls d H' => ∃ b, PySem.W.exmOne K cls c = some b ∧ (b = true → Q (.str r) H') ∧ (b = false → toldE K Q l cls d H')
def TTold3 (K : PySem.W.Frag) (l : List (Value × Str)) : (XK → Hp → VK → Prop) → Hp → VK → Prop := fun tl H Q => tl (toldE K Q l) H Q
theorem wMany_told {K : PySem.W.Frag} {Q : VK} {D : Ends} (hD : D.rt = Q) : ∀ (l : List (Value × Str)) cls d σ H, toldE K Q l cls d H → wMany K (fun _ _ _ _ => False) D (l.map fun p => (p.1, fun _ _ _ => tRet (tC (.str p.2)))) cls d σ H
  | [], cls, d, σ, H, h => h
  | (c, r) :: l, cls, d, σ, H, ⟨b, h1, h2, h3⟩ => ⟨b, h1, fun e a _ => by
      show D.rt (.str r) H
      rw [hD]; exact h2 e, fun e => wMany_told hD l cls d σ H (h3 e)⟩
theorem told_many {Ng : List Str} {x a q : Str} {sg : Scope} {g : Addr} {cdg : Value} {p1 p2 p3 p4 : Pos} {h₀ : ExceptHandler} {hds : List ExceptHandler} {l : List (Value × Str)}
    (hh : ∀ s H, HdsOk (cxOf C8.CX0 X.prog X.w X.K X.mg X.base Ng x sg g cdg X.A X.stack s H C8.E0).nox (h₀ :: hds) (l.map fun p => (p.1, fun _ _ _ => tRet (tC (.str p.2))))) (h0 : ∀ f : Addr, (L2.start Ng [V.ref f])[0]? = some (some (V.ref f))) :
    GivesTo3 X Ng x sg g cdg [.Try [.Return (some (.Call (.Name a p1) [] [] p2)) p3] (h₀ :: hds) [] [] p4] a q (TTold3 X.K l) := by
  intro f c' P' s H Q tl act hc h
  refine ⟨_, pss_one (ps_try_many (X := (cxOf C8.CX0 X.prog X.w X.K X.mg X.base Ng x sg g cdg X.A X.stack s H C8.E0).nox)
      (tb := fun W D σ H => ∃ Ech : XK, (∀ cls d σ' H', Ech cls d H' → W cls d σ' H') ∧ σ[0]? = some (some (.ref f)) ∧ H c' = some (CodeT c' P' q) ∧ tl Ech H D.rt)
      rfl rfl LamX.takes0 (fun W pn xe tk _ => ?_) (hh s H)), ?_⟩
  · refine ⟨fun pins s' σ H' D I h' => ?_⟩
    obtain ⟨Ech, hW, h1, h2, h3⟩ := h'
    have hp := act W pn xe Ech p1 p2 tk hW
    have hq := pss_one (ps_ret (pos := p3) hp)
    exact hq.run pins s' σ H' D I ⟨h1, h2, h3⟩
  · exact ⟨toldE X.K Q l, fun cls d σ' H' e => wMany_told rfl l cls d σ' H' e, h0 f, hc, h⟩
end
end L3

namespace L3
open PySem L2
variable [Md]
/-- x(lambda: e), x telling errors: each clause's errors by their names, its text -/
def toldAt : List (List Str × List Str × Str) → Exc → Option Str
  | [], _ => none
  | (yes, no, r) :: l, e => if e.1 ∈ yes then some r else if e.1 ∈ no then toldAt l e else none
def fTold (l : List (List Str × List Str × Str)) (f : M R) : M R := fun ρ => match f ρ with
  | some (.error e, ρ1) => match toldAt l e with
    | some r => some (.ok (.val (.str r)), ρ1)
    | none => none
  | r => r
section
variable [tb : Tb] {X : Cx} {W : WX} {mg : Str → Option Value}
/-- the clauses' classes, and which errors they take -/
inductive ToldOk (K : PySem.W.Frag) (mg : Str → Option Value) : List (List Str × List Str × Str) → List (Value × Str) → Prop
  | nil : ToldOk K mg [] []
  | cons {yes no : List Str} {r : Str} {c : Value} {l : List (List Str × List Str × Str)} {l' : List (Value × Str)} (hy : ∀ n ∈ yes, ∀ cls, mg n = some cls → PySem.W.exmOne K cls c = some true) (hn : ∀ n ∈ no, ∀ cls, mg n = some cls → PySem.W.exmOne K cls c = some false) (t : ToldOk K mg l l') :
      ToldOk K mg ((yes, no, r) :: l) ((c, r) :: l')
theorem toldE_ok {K : PySem.W.Frag} {mg : Str → Option Value} {Q : VK} {l : List (List Str × List Str × Str)} {l' : List (Value × Str)} (ok : ToldOk K mg l l') : ∀ {e : Exc} {r : Str} {cls : Value} {d : Option Addr} {H' : Hp}, mg e.1 = some cls → toldAt l e = some r → Q (.str r) H' → toldE K Q l' cls d H' := by
  induction ok with
  | nil => intro e r cls d H' _ h; cases h
  | cons hy hn t ih =>
    intro e r cls d H' hm h q
    unfold toldAt at h
    split at h
    · rename_i hme
      cases h
      exact ⟨true, hy _ hme _ hm, fun _ => q, fun z => by cases z⟩
    · split at h
      · rename_i hme
        exact ⟨false, hn _ hme _ hm, (fun z => by cases z), fun _ => ih hm h q⟩
      · cases h
theorem snd_told {MkR : Hp → Prop} {P : Addr} {nmf : Nat → Nat → Str} {nm : Str} {lpos : Pos} {K : PySem.W.Frag} {l : List (List Str × List Str × Str)} {l' : List (Value × Str)} {t : XK → TE} {f : M R} (ok : ToldOk K mg l l') (hT : (P, some nmf) ∈ tb.T) (hn : ∀ p ∈ tb.T, p.1 = P → ∀ g, p.2 = some g → g = nmf) (hnm : nmf lpos.line lpos.col = nm)
    (hMk : ∀ F A O σ H ρ, Rel F A O σ H ρ → MkR H) (hf : ∀ E : XK, Snd mg (fun cls d _ H' => E cls d H') (t E) f) : Snd mg W (tLam3 MkR P nmf nm lpos (TTold3 K l') t) (fTold l f) := by
  intro F A O σ H ρ r ρ' Q rel hq post
  refine ⟨hMk _ _ _ _ _ _ rel, rel.tabs.t _ hT, fun H1 c' P' gr => ?_⟩
  have rel1 := gr.rel (fun p hp e g eg => by rw [hn p hp e g eg, hnm]) rel
  have t1 : Tr O H O H1 := gr.tr
  show t (toldE K Q l') σ H1 Q
  unfold fTold at hq
  split at hq
  · rename_i e ρ1 q
    split at hq
    · rename_i rr er
      cases hq
      refine hf (toldE K Q l') F A O σ H1 ρ _ _ Q rel1 q fun H' cls dd tr rel' xr => ?_
      exact toldE_ok ok xr.1 er (post H' (.str rr) (t1.trans tr) rel' (.str rr))
    · cases hq
  · rename_i hne
    refine hf (toldE K Q l') F A O σ H1 ρ r ρ' Q rel1 hq ?_
    cases r with
    | error e => exact absurd hq (hne e ρ')
    | ok z =>
      cases z with
      | val d => exact fun H' v tr rel' rp => post H' v (t1.trans tr) rel' rp
      | slot i => exact fun H' p tr rel' rp => post H' p (t1.trans tr) rel' rp
      | fresh d => exact fun H' p o tr rel' n ob => post H' p o (t1.trans tr) rel' n ob
theorem ev_told {nmf : Nat → Nat → Str} {x a : Str} {g c P : Addr} {k : Nat} {stg : Stmt} {fdg : FuncData} {Ng : List Str} {l : List (List Str × List Str × Str)} {l' : List (Value × Str)}
    {params : Arguments} {body : Expr} {scope : Scope} {t : XK → TE} {f : M R} {p lpos pos : Pos} (Fg : Fun X.K x x stg g fdg) (hr : Room (k + 2) X.A) (M : Mk X c P nmf) (hnm : nmf lpos.line lpos.col = X.env.qual ++ "<lambda>") (hg : Gl X x) (hm : X.mg x = some (.ref g))
    (hb : L2.Binds X.K fdg [a] []) (Sg : FnScope Ng [a] (defScope stg)) (hNg : Ng[0]? = some a) (hva : Vis (defScope stg) a)
    (hG : ∀ cdv, GivesTo3 X Ng x (defScope stg) g cdv (defBody stg) a (X.env.qual ++ "<lambda>") (TTold3 X.K l')) (ok : ToldOk X.K X.mg l l') (L : LamOk X scope []) (hNX : X.N.Nodup) (hdef : defaultsOf params X.env = ([], []))
    (hbind : ∀ (q : Str) (cl : List (Str × Addr)) (pm cv ctv : Value), bindArgs (PySem.W.kla_fn "<lambda>" q params body scope cl pm cv ctv) ⟨[], []⟩ = pure [])
    (hbody : ∀ (A : Around) (outer : List Env) (s : Shared) (H : Hp) (E : XK) (f' c' : Addr), Room k (A.deeper (LamX.lamEnv X scope s.heap.objs.size f' c')) → Ev (LamX.lamCx X A outer s H E scope f' c') (fun cls d _ H' => E cls d H') body (t E) f)
    (hdb : (x == ("__debug__" : Str)) = false := by decide) (hd : (a == ("__debug__" : Str)) = false := by decide) (hcd : (a == ("__classdict__" : Str)) = false := by decide) :
    Ev X W (.Call (.Name x p) [.Lambda params body scope lpos] [] pos) (tLam3 (fun _ => True) P nmf (X.env.qual ++ "<lambda>") lpos (TTold3 X.K l') t) (fTold l f) := by
  obtain ⟨oc, od, kV, doc, pm, an, cdv, ct, osl, rfl, lk, hcd'⟩ := Fg.ex
  refine ⟨pe_lamcall3 hg hm Fg.kp lk hcd' hb Sg hNg hva (hG cdv) (mkSrc_static M.code M.tab) hnm hr L hNX hdef hbind (fun A outer s H E f' c' r => (hbody A outer s H E f' c' r).pe) hdb hd hcd, ?_⟩
  have hdum : ∃ A : Around, ∃ s : Shared, Room k (A.deeper (LamX.lamEnv X scope s.heap.objs.size 0 0)) := by
    refine ⟨X.A, X.s_0, (hr.mono (Nat.le_succ (k + 1))).deeper _⟩
  obtain ⟨A0, s0, hr0⟩ := hdum
  exact snd_told ok M.mem M.uni hnm (fun _ _ _ _ _ _ _ => trivial) fun E => (hbody A0 [] s0 (fun _ => none) E 0 0 hr0).sd
end
end L3

namespace L3
open PySem PySem.Spec PyProof.Rows PySem.W L2
/-! ### data compared, sorted, the least of it: on values -/
section
variable {X : Cx}
abbrev CmpD (d e : PyData) : Prop := alike d e = true ∧ d ≠ .none ∧ min d.depth e.depth ≤ 60
def rCmpD (K : PySem.W.Frag) (f : PyData → PyData → Bool) : R2 := fun v w H Q => ∃ d e, Dp K H v d ∧ Dp K H w e ∧ CmpD d e ∧ Q (.bl (f d e)) H
theorem op_ltD (hu : X.A.units + 65 < cLine) : OpR X (compareOp .Lt) (rCmpD X.K fun d e => dataLt d e) := by
  intro pins s σ H x y v u Q I rx ry h
  obtain ⟨d, e, hd, he, ⟨h1, h2, h3⟩, q⟩ := h
  obtain ⟨as, r1⟩ := Dp.reads I d x v hd rx
  obtain ⟨bs, r2⟩ := Dp.reads I e y u he ry
  exact lt_data r1 r2 h1 h2 (by omega) ⟨.bl _, H, I, rfl, q⟩
theorem op_gtD (hu : X.A.units + 65 < cLine) : OpR X (compareOp .Gt) (rCmpD X.K fun d e => dataLt e d) := by
  intro pins s σ H x y v u Q I rx ry h
  obtain ⟨d, e, hd, he, ⟨h1, h2, h3⟩, q⟩ := h
  obtain ⟨as, r1⟩ := Dp.reads I d x v hd rx
  obtain ⟨bs, r2⟩ := Dp.reads I e y u he ry
  exact gt_data r1 r2 h1 h2 (by omega) ⟨.bl _, H, I, rfl, q⟩
theorem op_leD (hu : X.A.units + 65 < cLine) : OpR X (compareOp .LtE) (rCmpD X.K fun d e => !dataLt e d) := by
  intro pins s σ H x y v u Q I rx ry h
  obtain ⟨d, e, hd, he, ⟨h1, h2, h3⟩, q⟩ := h
  obtain ⟨as, r1⟩ := Dp.reads I d x v hd rx
  obtain ⟨bs, r2⟩ := Dp.reads I e y u he ry
  exact le_data r1 r2 h1 h2 (by omega) ⟨.bl _, H, I, rfl, q⟩
theorem op_geD (hu : X.A.units + 65 < cLine) : OpR X (compareOp .GtE) (rCmpD X.K fun d e => !dataLt d e) := by
  intro pins s σ H x y v u Q I rx ry h
  obtain ⟨d, e, hd, he, ⟨h1, h2, h3⟩, q⟩ := h
  obtain ⟨as, r1⟩ := Dp.reads I d x v hd rx
  obtain ⟨bs, r2⟩ := Dp.reads I e y u he ry
  exact ge_data r1 r2 h1 h2 (by omega) ⟨.bl _, H, I, rfl, q⟩
/-- min, max of a list or tuple -/
def rExtD (K : PySem.W.Frag) (f : PyData → List PyData → PyData) : List V → Hp → VK → Prop := fun vs H Q => ∃ (a : Addr) (xs : List V) (x : PyData) (ds : List PyData), vs = [.ref a] ∧ (SqL K H a xs ∨ SqT K H a xs) ∧ DpAll K H xs (x :: ds) ∧ AlikeAll (x :: ds) ∧ PyData.depthAll (x :: ds) ≤ 60 ∧
  ∀ (i : Nat) xv, xs[i]? = some xv → (x :: ds)[i]? = some (f x ds) → Q xv H
theorem reads_at {h : Heap} {vs : List Value} {xs : List PyData} {as : List Addr} (hr : ReadsAll h vs xs as) {i : Nat} {v : Value} (hv : vs[i]? = some v) {d : PyData} {bs : List Addr} (r : Reads h v d bs) (hd : ∀ x ∈ xs, alike x d = true) : xs[i]? = some d := by
  obtain ⟨cs, r2, hlt, hm, _⟩ := readsAll_at hr i v hv
  have e := alike_unique _ _ v _ _ (hd _ hm) r2 r
  rw [List.getElem?_eq_getElem hlt]
  have e2 : xs.getD i .none = xs[i] := by rw [List.getD_eq_getElem?_getD, List.getElem?_eq_getElem hlt]; rfl
  rw [← e2, e]
theorem vals_get' {xs : List V} {us : List Value} {i : Nat} {u : Value} (rv : Vals xs us) (h : us[i]? = some u) : ∃ x, xs[i]? = some x ∧ RelV x u := by
  have hlt : i < xs.length := by rw [rv.length]; exact (List.getElem?_eq_some_iff.mp h).1
  obtain ⟨u', e1, e2⟩ := rv.get (List.getElem?_eq_getElem hlt)
  rw [h] at e1; cases e1
  exact ⟨_, List.getElem?_eq_getElem hlt, e2⟩
theorem fold_mem {α : Type} (f : α → α → Bool) : ∀ (xs : List α) (x : α), xs.foldl (fun a y => if f y a = true then y else a) x ∈ x :: xs
  | [], x => List.mem_cons_self
  | y :: ys, x => by
    rw [List.foldl_cons]
    split
    · exact List.mem_cons_of_mem _ (fold_mem f ys y)
    · rcases List.mem_cons.mp (fold_mem f ys x) with h | h
      · rw [h]; exact List.mem_cons_self
      · exact List.mem_cons_of_mem _ (List.mem_cons_of_mem _ h)
theorem min_mem (x : PyData) (ds : List PyData) : minD x ds ∈ x :: ds := by
  unfold minD
  exact fold_mem (fun y a => dataLt y a) ds x
theorem max_mem (x : PyData) (ds : List PyData) : maxD x ds ∈ x :: ds := by
  unfold maxD
  exact fold_mem (fun y a => dataLt a y) ds x
theorem cr_minD (hc : X.calm = true) (hu : X.A.units + 65 < cLine) : CallR X (.builtin "min") (rExtD X.K minD) := by
  intro pins s σ H vs us Q I r h
  obtain ⟨a, xs, x, ds, rfl, hs, hd, ha, hdp, q⟩ := h
  obtain rfl := Vals.ref1 r
  have fin : ∀ (its : List Value) (as : List Addr), Vals xs its → ReadsAll s.heap its (x :: ds) as → ∀ (i : Nat) v h' tk bs, its.toArray[i]? = some v → Reads h' v (minD x ds) bs → (∀ b o, s.heap.get? b = some o → h'.get? b = some o) → EP X pins σ Q v { s with heap := h', toks := tk } := by
    intro its as rv hr i v h' tk bs hv rd hk
    have hv' : its[i]? = some v := by simpa using hv
    have hr' : ReadsAll h' its (x :: ds) as := ReadsAll.keeps hk hr
    have hi := reads_at hr' hv' rd fun z hz => ha.1 _ hz _ (min_mem x ds)
    obtain ⟨xv, e1, e2⟩ := vals_get' rv hv'
    exact ⟨xv, H, I.kept hk, e2, q i xv e1 hi⟩
  rcases hs with hs | hs
  · obtain ⟨its, rv, hl, hz⟩ := I.list hs
    obtain ⟨as, hr⟩ := Dp.readsAll I _ _ _ hd rv
    exact min_list_data (I.ok.hd hc) hl.isList (by simpa using hr) ha (by omega) (fin its as rv hr)
  · obtain ⟨its, rv, hl, hz⟩ := I.tuple hs
    obtain ⟨as, hr⟩ := Dp.readsAll I _ _ _ hd rv
    exact min_tuple_data (I.ok.hd hc) hl (by simpa using hr) ha (by omega) (fin its as rv hr)
theorem cr_maxD (hc : X.calm = true) (hu : X.A.units + 65 < cLine) : CallR X (.builtin "max") (rExtD X.K maxD) := by
  intro pins s σ H vs us Q I r h
  obtain ⟨a, xs, x, ds, rfl, hs, hd, ha, hdp, q⟩ := h
  obtain rfl := Vals.ref1 r
  have fin : ∀ (its : List Value) (as : List Addr), Vals xs its → ReadsAll s.heap its (x :: ds) as → ∀ (i : Nat) v h' tk bs, its.toArray[i]? = some v → Reads h' v (maxD x ds) bs → (∀ b o, s.heap.get? b = some o → h'.get? b = some o) → EP X pins σ Q v { s with heap := h', toks := tk } := by
    intro its as rv hr i v h' tk bs hv rd hk
    have hv' : its[i]? = some v := by simpa using hv
    have hr' : ReadsAll h' its (x :: ds) as := ReadsAll.keeps hk hr
    have hi := reads_at hr' hv' rd fun z hz => ha.1 _ hz _ (max_mem x ds)
    obtain ⟨xv, e1, e2⟩ := vals_get' rv hv'
    exact ⟨xv, H, I.kept hk, e2, q i xv e1 hi⟩
  rcases hs with hs | hs
  · obtain ⟨its, rv, hl, hz⟩ := I.list hs
    obtain ⟨as, hr⟩ := Dp.readsAll I _ _ _ hd rv
    exact max_list_data (I.ok.hd hc) hl.isList (by simpa using hr) ha (by omega) (fin its as rv hr)
  · obtain ⟨its, rv, hl, hz⟩ := I.tuple hs
    obtain ⟨as, hr⟩ := Dp.readsAll I _ _ _ hd rv
    exact max_tuple_data (I.ok.hd hc) hl (by simpa using hr) ha (by omega) (fin its as rv hr)
/-! ### sorted -/
def zipS (b : Bool) (xs : List V) (ds : List PyData) : List V := ((xs.zip ds).mergeSort (dataLe b fun p => p.2)).map (·.1)
def rSortedDD (K : PySem.W.Frag) (b : Bool) (a : Addr) (xs : List V) : Hp → VK → Prop := fun H Q => ∃ (ds : List PyData), DpAll K H xs ds ∧ AllAlike ds ∧ Sortable ds ∧ PyData.depthAll ds ≤ 60 ∧
  ∀ p, H p = none → Q (.ref p) (upd H p (.lst (zipS b xs ds)))
theorem each_zip : ∀ {xs : List V} {us : List Value} {ds : List PyData}, Vals xs us → ds.length = xs.length → EachIs (fun u (p : V × PyData) => RelV p.1 u) us (xs.zip ds)
  | [], [], [], .nil, _ => .nil
  | x :: xs, u :: us, d :: ds, .cons r t, h => .cons r (each_zip t (by simpa using h))
theorem each_vals : ∀ {us : List Value} {ps : List (V × PyData)}, EachIs (fun u (p : V × PyData) => RelV p.1 u) us ps → Vals (ps.map (·.1)) us
  | [], [], .nil => .nil
  | u :: us, p :: ps, .cons r t => .cons r (each_vals t)
theorem each_reads {h : Heap} : ∀ {us : List Value} {xs : List V} {ds : List PyData} {as : List Addr}, ReadsAll h us ds as → xs.length = us.length → EachIs (fun u (p : V × PyData) => ∃ as, Reads h u p.2 as) us (xs.zip ds)
  | _, [], _, _, .nil, _ => .nil
  | _, x :: xs, _, _, .cons r t, hl => .cons ⟨_, r⟩ (each_reads t (by simpa using hl))
theorem dpAll_length {K : PySem.W.Frag} {H : Hp} : ∀ {xs : List V} {ds : List PyData}, DpAll K H xs ds → xs.length = ds.length
  | _, _, .nil => rfl
  | _, _, .cons _ t => congrArg (· + 1) (dpAll_length t)
theorem zip_snd : ∀ {xs : List V} {ds : List PyData}, xs.length = ds.length → (xs.zip ds).map (·.2) = ds
  | [], [], _ => rfl
  | x :: xs, d :: ds, h => by
    rw [List.zip_cons_cons, List.map_cons, zip_snd (by simpa using h)]
theorem depthAll_mem {d : PyData} : ∀ {ds : List PyData}, d ∈ ds → d.depth ≤ PyData.depthAll ds
  | e :: es, h => by
    rw [PyData.depthAll]
    rcases List.mem_cons.mp h with rfl | h
    · exact Nat.le_max_left _ _
    · exact Nat.le_trans (depthAll_mem h) (Nat.le_max_right _ _)
theorem sortedDD_run {b : Bool} {pins : List (Addr × Obj)} {s : Shared} {σ : L2.St} {H : Hp} {a : Addr} {xs : List V} {Q : VK} {kw : List (Str × Value)} (I : Inv X pins σ H s) (hu : X.A.units + 65 < cLine) (hs : SqL X.K H a xs) (h : rSortedDD X.K b a xs H Q)
    (run : ∀ {l : Addr} {bs : List (V × PyData)} {vs : List Value} {Q : Value → Shared → Prop}, s.heap.IsList l vs.toArray → EachIs (fun u (p : V × PyData) => RelV p.1 u) vs bs → EachIs (fun v (p : V × PyData) => ∃ as, Reads s.heap v p.2 as) vs bs → AllAlike (bs.map fun p => p.2) → Sortable (bs.map fun p => p.2) → bs.length ≤ sizeLine →
      (∀ p, p ∈ bs → X.A.units + 2 + p.2.depth < cLine) → (∀ out, out.length = bs.length → EachIs (fun u (p : V × PyData) => RelV p.1 u) out (bs.mergeSort (dataLe b fun p => p.2)) → Q (.ref (s.heap.objs.size + 1)) { s with heap := sortedAll s.heap vs (List.toArray out) }) →
      wpAny (model X.prog X.w) X.A (call (.builtin "sorted") [.ref l] kw) Q X.xe s) : wpAny (model X.prog X.w) X.A (call (.builtin "sorted") [.ref a] kw) (EP X pins σ Q) X.xe s := by
  obtain ⟨ds, hd, hal, hsr, hdp, q⟩ := h
  obtain ⟨its, rv, hl, hz⟩ := I.list hs
  obtain ⟨as, hr⟩ := Dp.readsAll I _ _ _ hd rv
  have e1 := dpAll_length hd
  have e2 := zip_snd e1
  have hlen : (xs.zip ds).length = xs.length := by rw [List.length_zip, ← e1, Nat.min_self]
  refine run hl.isList (each_zip rv e1.symm) (each_reads hr rv.length) (by rw [e2]; exact hal) (by rw [e2]; exact hsr) (by rw [hlen]; exact hz) (fun p hp => ?_) fun out ho heach => ?_
  · have h2 : p.2 ∈ ds := by rw [← e2]; exact List.mem_map.mpr ⟨p, hp, rfl⟩
    have := depthAll_mem h2
    omega
  · obtain ⟨ep, he'⟩ := PyProof.Rows.sortedAll_at s.heap its (List.toArray out)
    have rvo := each_vals heach
    have hlo : (zipS b xs ds).length ≤ sizeLine := by
      unfold zipS
      rw [List.length_map, List.length_mergeSort, hlen]
      exact hz
    exact ⟨.ref _, upd H (s.heap.objs.size + 1) (.lst (zipS b xs ds)), I.laid (t' := s.toks) (fun _ _ => PyProof.Rows.sortedAll_old) (Nat.le_succ _) ⟨hlo, out, ep, rvo, he'⟩, rfl, q _ (I.hok.fresh (Nat.le_succ _))⟩
/-- sorted(xs), xs a list -/
theorem cr_sortedDD (hu : X.A.units + 65 < cLine) : CallR X (.builtin "sorted") (fun vs H Q => ∃ (a : Addr) (xs : List V), vs = [.ref a] ∧ SqL X.K H a xs ∧ rSortedDD X.K false a xs H Q) := by
  intro pins s σ H vs us Q I r h
  obtain ⟨a, xs, rfl, hs, h⟩ := h
  obtain rfl := Vals.ref1 r
  exact sortedDD_run (kw := []) I hu hs h fun hl e er hal hk hL hu h => sorted_data (enc := fun p => p.2) hl e er hal hk hL hu h
/-- sorted(xs, reverse=b) -/
theorem cr_sortedRevDD {b : Bool} (hu : X.A.units + 65 < cLine) : CallRK X (.builtin "sorted") [Str.ofString "reverse"] (fun vs zs H Q => ∃ (a : Addr) (xs : List V), vs = [.ref a] ∧ zs = [.bl b] ∧ SqL X.K H a xs ∧ rSortedDD X.K b a xs H Q) := by
  intro pins s σ H vs zs us ws Q I r rz h
  obtain ⟨a, xs, rfl, rfl, hs, h⟩ := h
  obtain rfl := Vals.ref1 r
  obtain ⟨w1, rfl, e1⟩ := vals1 rz
  obtain rfl : w1 = Value.bool b := e1
  exact sortedDD_run (kw := [(Str.ofString "reverse", .bool b)]) I hu hs h fun hl e er hal hk hL hu h => sorted_rev_data (enc := fun p => p.2) hl e er hal hk hL hu h
end
end L3

namespace L3
open PySem PySem.W L2
variable [Md] [Tb]
/-! ### data compared, sorted, the least of it -/
def lay (d : D) : Bool := (toPy d).canLay0
def dlt (d e : D) : Bool := dataLt (toPy d) (toPy e)
def alk (d e : D) : Bool := alike (toPy d) (toPy e)
def nonD : D → Bool
  | .non => true
  | _ => false
theorem nonD_iff {d : D} (h : nonD d = false) : toPy d ≠ .none := by
  cases d with
  | non => cases h
  | bl b => rw [toPy]; exact fun z => by cases z
  | int b => rw [toPy]; exact fun z => by cases z
  | str b => rw [toPy]; exact fun z => by cases z
  | lst b => rw [toPy]; exact fun z => by cases z
  | tup b => rw [toPy]; exact fun z => by cases z
  | dK b => rw [toPy]; exact fun z => by cases z
  | dT b => rw [toPy]; exact fun z => by cases z
def dpt (d : D) : Nat := (toPy d).depth
def cmpOk (d e : D) : Bool := lay d && lay e && alk d e && !nonD d && decide (dpt d ≤ 60)
def gCmpD (f : D → D → Bool) (d e : D) : Option R := if cmpOk d e = true then some (.val (.bl (f d e))) else none
def gLtD := gCmpD dlt
def gGtD := gCmpD fun d e => dlt e d
def gLeD := gCmpD fun d e => !dlt e d
def gGeD := gCmpD fun d e => !dlt d e
theorem cmpOk_iff {d e : D} (h : cmpOk d e = true) : (toPy d).canLay0 = true ∧ (toPy e).canLay0 = true ∧ alike (toPy d) (toPy e) = true ∧ toPy d ≠ .none ∧ (toPy d).depth ≤ 60 := by
  unfold cmpOk at h
  simp only [Bool.and_eq_true, Bool.not_eq_true', decide_eq_true_eq] at h
  exact ⟨h.1.1.1.1, h.1.1.1.2, h.1.1.2, nonD_iff h.1.2, h.2⟩
theorem ad_cmpD {K : PySem.W.Frag} {f : PyData → PyData → Bool} {g : D → D → Bool} (hf : ∀ d e, f (toPy d) (toPy e) = g d e) : Ad2 (rCmpD K f) (gCmpD g) := by
  intro B H v w x y z Q gd rv rw' e
  unfold gCmpD at e
  split at e
  · rename_i c
    cases e
    obtain ⟨h1, h2, h3, h4, h5⟩ := cmpOk_iff c
    refine ⟨(fun i h => by cases h), fun pp => ⟨toPy x, toPy y, rv.dp h1, rw'.dp h2, ⟨h3, h4, Nat.le_trans (Nat.min_le_left _ _) h5⟩, ?_⟩⟩
    rw [hf]
    exact pp H _ (fun _ _ q => q) (.bl _)
  · cases e
theorem ad_ltD {K : PySem.W.Frag} : Ad2 (rCmpD K fun d e => dataLt d e) gLtD := ad_cmpD fun _ _ => rfl
theorem ad_gtD {K : PySem.W.Frag} : Ad2 (rCmpD K fun d e => dataLt e d) gGtD := ad_cmpD fun _ _ => rfl
theorem ad_leD {K : PySem.W.Frag} : Ad2 (rCmpD K fun d e => !dataLt e d) gLeD := ad_cmpD fun _ _ => rfl
theorem ad_geD {K : PySem.W.Frag} : Ad2 (rCmpD K fun d e => !dataLt d e) gGeD := ad_cmpD fun _ _ => rfl
/-! ### data that read alike are alike -/
theorem lay_all {ds : List D} (h : PyData.canLayAll0 (toPys ds) = true) : ∀ d ∈ ds, lay d = true := by
  induction ds with
  | nil => intro d hd; cases hd
  | cons e es ih =>
    rw [toPys, PyData.canLayAll0, Bool.and_eq_true] at h
    intro d hd
    rcases List.mem_cons.mp hd with rfl | hd
    · exact h.1
    · exact ih h.2 d hd
mutual
theorem toPy_inj : ∀ (d e : D), (toPy d).canLay0 = true → toPy d = toPy e → d = e
  | .non, e, _, h => by cases e <;> simp only [toPy] at h <;> first | rfl | cases h
  | .bl b, e, _, h => by cases e <;> simp only [toPy] at h <;> first | (cases h; rfl) | cases h
  | .int b, e, _, h => by cases e <;> simp only [toPy] at h <;> first | (cases h; rfl) | cases h
  | .str b, e, _, h => by cases e <;> simp only [toPy] at h <;> first | (cases h; rfl) | cases h
  | .lst ds, e, c, h => by
    cases e with
    | lst es =>
      simp only [toPy] at h c
      rw [PyData.canLay0] at c
      injection h with h
      rw [toPys_inj ds es c h]
    | _ => simp only [toPy] at h <;> cases h
  | .tup ds, e, c, h => by
    cases e with
    | tup es =>
      simp only [toPy] at h c
      rw [PyData.canLay0] at c
      injection h with h
      rw [toPys_inj ds es c h]
    | _ => simp only [toPy] at h <;> cases h
  | .dK ds, e, c, h => by simp only [toPy] at c; rw [PyData.canLay0] at c; cases c
  | .dT ds, e, c, h => by simp only [toPy] at c; rw [PyData.canLay0] at c; cases c
theorem toPys_inj : ∀ (ds es : List D), PyData.canLayAll0 (toPys ds) = true → toPys ds = toPys es → ds = es
  | [], es, _, h => by
    cases es with
    | nil => rfl
    | cons e es => rw [toPys, toPys] at h; cases h
  | d :: ds, es, c, h => by
    cases es with
    | nil => rw [toPys, toPys] at h; cases h
    | cons e es =>
      rw [toPys, toPys] at h
      rw [toPys, PyData.canLayAll0, Bool.and_eq_true] at c
      injection h with h1 h2
      rw [toPy_inj d e c.1 h1, toPys_inj ds es c.2 h2]
end
/-! ### min, max -/
def minDD (d : D) (ds : List D) : D := ds.foldl (fun a y => if dlt y a = true then y else a) d
def maxDD (d : D) (ds : List D) : D := ds.foldl (fun a y => if dlt a y = true then y else a) d
theorem minDD_py : ∀ (ds : List D) (d : D), toPy (minDD d ds) = minD (toPy d) (toPys ds)
  | [], d => by rw [toPys]; rfl
  | e :: es, d => by
    have ih := minDD_py es (if dlt e d = true then e else d)
    unfold minDD minD at ih ⊢
    rw [toPys, List.foldl_cons, List.foldl_cons, ih]
    congr 1
    unfold dlt
    split <;> rfl
theorem maxDD_py : ∀ (ds : List D) (d : D), toPy (maxDD d ds) = maxD (toPy d) (toPys ds)
  | [], d => by rw [toPys]; rfl
  | e :: es, d => by
    have ih := maxDD_py es (if dlt d e = true then e else d)
    unfold maxDD maxD at ih ⊢
    rw [toPys, List.foldl_cons, List.foldl_cons, ih]
    congr 1
    unfold dlt
    split <;> rfl
def alkAll (ds : List D) : Bool := ds.all fun d => ds.all fun e => alk d e
def laysOk (ds : List D) : Bool := PyData.canLayAll0 (toPys ds) && decide (PyData.depthAll (toPys ds) ≤ 60)
def extOk (ds : List D) : Bool := laysOk ds && alkAll ds && ds.all fun d => !nonD d
def gExtD (f : D → List D → D) : List D → Option R
  | [.lst (d :: ds)] => if extOk (d :: ds) = true then some (.val (f d ds)) else none
  | [.tup (d :: ds)] => if extOk (d :: ds) = true then some (.val (f d ds)) else none
  | _ => none
theorem alkAll_iff {ds : List D} (h : alkAll ds = true) : ∀ x ∈ toPys ds, ∀ y ∈ toPys ds, alike x y = true := by
  intro x hx y hy
  rw [toPys_eq] at hx hy
  obtain ⟨d, hd, rfl⟩ := List.mem_map.mp hx
  obtain ⟨e, he, rfl⟩ := List.mem_map.mp hy
  exact List.all_eq_true.mp (List.all_eq_true.mp h d hd) e he
theorem extOk_iff {ds : List D} (h : extOk ds = true) : PyData.canLayAll0 (toPys ds) = true ∧ PyData.depthAll (toPys ds) ≤ 60 ∧ AlikeAll (toPys ds) := by
  unfold extOk laysOk at h
  simp only [Bool.and_eq_true, decide_eq_true_eq] at h
  refine ⟨h.1.1.1, h.1.1.2, alkAll_iff h.1.2, fun x hx => ?_⟩
  rw [toPys_eq] at hx
  obtain ⟨d, hd, rfl⟩ := List.mem_map.mp hx
  exact nonD_iff (by simpa using List.all_eq_true.mp h.2 d hd)
theorem ad_extD {K : PySem.W.Frag} {f : PyData → List PyData → PyData} {g : D → List D → D} (hf : ∀ d ds, toPy (g d ds) = f (toPy d) (toPys ds)) (hm : ∀ d ds, g d ds ∈ d :: ds) : AdC (rExtD K f) (gExtD g) := by
  intro B H vs ds z Q gd rv e
  have key : ∀ (d : D) (ds : List D) (a : Addr) (us : List V), extOk (d :: ds) = true → RpAll B H us (d :: ds) → (SqL K H a us ∨ SqT K H a us) → PP B H Q (.val (g d ds)) → rExtD K f [.ref a] H Q := fun d ds a us c ra hs pp => by
    obtain ⟨h1, h2, h3⟩ := extOk_iff c
    have e1 : toPys (d :: ds) = toPy d :: toPys ds := by rw [toPys]
    refine ⟨a, us, toPy d, toPys ds, rfl, hs, by rw [← e1]; exact dpAll_of ra h1, by rw [← e1]; exact h3, by rw [← e1]; exact h2, fun i xv hx hi => ?_⟩
    obtain ⟨di, e2, e3⟩ := ra.get' hx
    rw [← e1, toPys_eq, List.getElem?_map, e2, ← hf] at hi
    have e4 : toPy di = toPy (g d ds) := Option.some.inj hi
    have e5 : di = g d ds := toPy_inj di _ (lay_all h1 di (List.mem_of_getElem? e2)) e4
    rw [e5] at e3
    exact pp H xv (fun _ _ q => q) e3
  unfold gExtD at e
  split at e
  · rename_i d ds
    split at e
    · rename_i c
      cases e
      obtain ⟨v, rfl, r⟩ := rv.one
      obtain ⟨a, us, rfl, ea, ra⟩ := r.lst
      exact ⟨(fun i h => by cases h), key d ds a us c ra (.inl (SqL.of ea))⟩
    · cases e
  · rename_i d ds
    split at e
    · rename_i c
      cases e
      obtain ⟨v, rfl, r⟩ := rv.one
      obtain ⟨a, o, us, rfl, ea, ta, ra, _⟩ := r.tup
      exact ⟨(fun i h => by cases h), key d ds a us c ra (.inr (ta.sq ea))⟩
    · cases e
  · cases e
theorem minDD_mem (d : D) (ds : List D) : minDD d ds ∈ d :: ds := fold_mem (fun y a => dlt y a) ds d
theorem maxDD_mem (d : D) (ds : List D) : maxDD d ds ∈ d :: ds := fold_mem (fun y a => dlt a y) ds d
/-- min, max: of two ints, of a list or tuple of ints, of a list or tuple of alike data -/
def gMinA (ds : List D) : Option R := match gMin ds with | some z => some z | none => gExtD minDD ds
def gMaxA (ds : List D) : Option R := match gMax ds with | some z => some z | none => gExtD maxDD ds
theorem ad_minA {K : PySem.W.Frag} : AdC (fun vs H Q => rMinU K vs H Q ∨ rExtD K minD vs H Q) gMinA := AdC.or ad_min (ad_extD (fun d ds => minDD_py ds d) minDD_mem)
theorem ad_maxA {K : PySem.W.Frag} : AdC (fun vs H Q => rMaxU K vs H Q ∨ rExtD K maxD vs H Q) gMaxA := AdC.or ad_max (ad_extD (fun d ds => maxDD_py ds d) maxDD_mem)
theorem cr_minA {X : Cx} (hc : X.calm = true) (hu : X.A.units + 65 < cLine) : CallR X (.builtin "min") (fun vs H Q => rMinU X.K vs H Q ∨ rExtD X.K minD vs H Q) := CallR.or (cr_minU hc) (cr_minD hc hu)
theorem cr_maxA {X : Cx} (hc : X.calm = true) (hu : X.A.units + 65 < cLine) : CallR X (.builtin "max") (fun vs H Q => rMaxU X.K vs H Q ∨ rExtD X.K maxD vs H Q) := CallR.or (cr_maxU hc) (cr_maxD hc hu)
/-! ### sorted -/
def dle (b : Bool) (d e : D) : Bool := cond b (!dlt d e) (!dlt e d)
def tup1 : D → Bool
  | .tup (_ :: _) => true
  | _ => false
def notT : D → Bool
  | .tup _ => false
  | .non => false
  | _ => true
def srtOk (ds : List D) : Bool := laysOk ds && alkAll ds && (ds.all tup1 || ds.all notT)
def gSortedDD (b : Bool) : List D → Option R
  | [.lst ds] => if srtOk ds = true then some (.fresh (.lst (ds.mergeSort (dle b)))) else none
  | _ => none
theorem dle_py (b : Bool) (d e : D) : dataLe b (fun (p : V × D) => toPy p.2) (.non, d) (.non, e) = dle b d e := by
  rw [dataLe_eq]
  rfl
theorem zipS_rp {B : Addr → Prop} {H : Hp} {b : Bool} {us : List V} {ds : List D} (r : RpAll B H us ds) : RpAll B H (zipS b us (toPys ds)) (ds.mergeSort (dle b)) := by
  have e1 : us.zip (toPys ds) = (us.zip ds).map fun p => (p.1, toPy p.2) := by
    rw [toPys_eq]
    have := List.zip_map_right (f := toPy) (l₁ := us) (l₂ := ds)
    rw [this]
    congr 1
  have hlen := r.length
  have e2 : (us.zip ds).map (·.2) = ds := List.map_snd_zip (by omega)
  have e3 : zipS b us (toPys ds) = ((us.zip ds).mergeSort fun p q => dle b p.2 q.2).map (·.1) := by
    unfold zipS
    rw [e1, ← List.map_mergeSort (r := fun p q : V × D => dle b p.2 q.2) (fun p _ q _ => by rw [dataLe_eq]; rfl), List.map_map]
    rfl
  have e4 : ds.mergeSort (dle b) = ((us.zip ds).mergeSort fun p q => dle b p.2 q.2).map (·.2) := by
    conv => lhs; rw [← e2]
    rw [List.map_mergeSort (r := fun p q : V × D => dle b p.2 q.2) (fun p _ q _ => rfl)]
  rw [e3, e4]
  have all : ∀ l : List (V × D), (∀ p ∈ l, Rp B H p.1 p.2) → RpAll B H (l.map (·.1)) (l.map (·.2)) := by
    intro l
    induction l with
    | nil => intro _; exact .nil
    | cons p l ih => intro h; exact .cons (h p List.mem_cons_self) (ih fun q hq => h q (List.mem_cons_of_mem _ hq))
  refine all _ fun p hp => ?_
  have hp' := List.mem_mergeSort.mp hp
  obtain ⟨i, hi, he⟩ := List.getElem_of_mem hp'
  rw [List.getElem_zip] at he
  have hi1 : i < us.length := by rw [List.length_zip] at hi; omega
  have hi2 : i < ds.length := by omega
  obtain ⟨v, e5, e6⟩ := r.get (List.getElem?_eq_getElem hi2)
  rw [List.getElem?_eq_getElem hi1] at e5
  cases e5
  rw [← he]
  exact e6
theorem srtOk_iff {ds : List D} (h : srtOk ds = true) : PyData.canLayAll0 (toPys ds) = true ∧ PyData.depthAll (toPys ds) ≤ 60 ∧ AllAlike (toPys ds) ∧ Sortable (toPys ds) := by
  unfold srtOk laysOk at h
  simp only [Bool.and_eq_true, decide_eq_true_eq, Bool.or_eq_true] at h
  refine ⟨h.1.1.1, h.1.1.2, fun x hx y hy => alkAll_iff h.1.2 x hx y hy, ?_⟩
  rcases h.2 with h2 | h2
  · refine .inl fun x hx => ?_
    rw [toPys_eq] at hx
    obtain ⟨d, hd, rfl⟩ := List.mem_map.mp hx
    have := List.all_eq_true.mp h2 d hd
    unfold tup1 at this
    split at this
    · rename_i e es
      refine ⟨toPy e, toPys es, ?_⟩
      rw [toPy, toPys]
    · cases this
  · refine .inr fun x hx => ?_
    rw [toPys_eq] at hx
    obtain ⟨d, hd, rfl⟩ := List.mem_map.mp hx
    have := List.all_eq_true.mp h2 d hd
    cases d with
    | non => cases this
    | tup _ => cases this
    | _ => exact ⟨(by rw [toPy]; intro z; cases z), fun xs => (by rw [toPy]; intro z; cases z)⟩
theorem ad_sortedDD {K : PySem.W.Frag} {b : Bool} : AdC (fun vs H Q => ∃ (a : Addr) (xs : List V), vs = [.ref a] ∧ SqL K H a xs ∧ rSortedDD K b a xs H Q) (gSortedDD b) := by
  intro B H vs ds z Q gd rv e
  unfold gSortedDD at e
  split at e
  · rename_i ds
    split at e
    · rename_i c
      cases e
      obtain ⟨v, rfl, r⟩ := rv.one
      obtain ⟨a, us, rfl, ea, ra⟩ := r.lst
      obtain ⟨h1, h2, h3, h4⟩ := srtOk_iff c
      exact ⟨noslotF _, fun pp => ⟨a, us, rfl, SqL.of ea, toPys ds, dpAll_of ra h1, h3, h4, h2, fun p hp => pp p _ hp (.lst (zipS_rp ra))⟩⟩
    · cases e
  · cases e
end L3

namespace L3
open PySem PySem.Spec PyProof.Rows PySem.W L2 LamX
/-! ### a lambda called by a built-in function -/
section
variable {X : Cx} {pins : List (Addr × Obj)} {σ : L2.St} {H : Hp} {s : Shared}
/-- an own object gets tracked -/
theorem Inv.adopt {a : Addr} {o : HO} (I : Inv X pins σ H s) (hn : H a = none) (ha : X.s_0.heap.objs.size ≤ a) (hL : a ≠ X.env.locals) (hc : ∀ x c, X.env.cells.lookup x = some c → c ≠ a) (hp : ∀ p ∈ X.pn ++ pins, p.1 ≠ a)
    (new : ObjOk X.prog X.w (upd H a o) s.heap a o) : Inv X pins σ (upd H a o) s := by
  have ne : ∀ b u, H b = some u → b ≠ a := fun b u e z => by rw [z, hn] at e; cases e
  have up : ∀ b u, H b = some u → upd H a o b = some u := fun b u e => by rw [upd_ne (ne b u e)]; exact e
  have := I.step (h' := s.heap) (g' := s.gens) (t' := s.toks) (d' := s.drawn) (H' := upd H a o) (ch := [a]) (fun b hb => ?_) (fun b o _ _ hc e _ => e) (fun b o _ _ hc e _ => ⟨o.slots, e⟩) (fun b o hc _ n => ?_)
    (fun b o hc e => ⟨o, e⟩) (fun b xs e => up b _ e) (fun b _ _ e => up b _ e) (fun b ps e => ⟨#[], by rw [up b _ e]; simp⟩) (fun m hm => hm) (fun b u e => ?_) I.bare
  · exact this
  · obtain rfl : b = a := by simpa using hb
    exact ⟨.inr ha, hL, hc, hp⟩
  · rw [upd_ne fun z => hc (by simp [z])]; exact n
  · by_cases hb : b = a
    · subst hb; rw [upd_same] at e; cases e; exact new
    · rw [upd_ne hb] at e
      exact (I.hok b u e).stay (fun c v _ q => q) (fun c q => up c _ q) fun c xs q => up c _ q
/-- f(u), f a lambda of one parameter -/
theorem lam_callK {A : Around} {E : Value → Shared → Prop} {scope : Scope} {f c' P' : Addr} {params : Arguments} {body : Expr} {pm ctv : Value} {x q : Str} {i k : Nat} {xv : V} {u : Value} {te : TE} {Q : VK}
    (I : Inv X pins σ H s) (hA : A.frames = some X.stack) (hd : A.handled = none) (hdp : A.depth < recursionLimit) (hr : ∀ env, Room k (A.deeper env)) (L : LamOk X scope [(x, i)]) (hNX : X.N.Nodup) (hl : scope.names.lookup x = some .local)
    (hf : s.heap.get? f = some (PySem.W.kla_obj "<lambda>" q params body scope (cloFrom X.env.cells scope.names []) pm c' ctv)) (hq : q = X.env.qual ++ "<lambda>") (hc : H c' = some (CodeT c' P' q))
    (hbind : bindArgs (PySem.W.kla_fn "<lambda>" q params body scope (cloFrom X.env.cells scope.names []) pm (.ref c') ctv) ⟨[u], []⟩ = pure [(x, u)]) (rv : RelV xv u)
    (hbody : ∀ (A : Around) (outer : List Env) (s : Shared) (H : Hp), Room k (A.deeper (lamEnv X scope s.heap.objs.size f c')) → PE (lamCx X A outer s H (fun _ _ _ => False) scope f c') body te) (h : te ((wipe σ [i]).set i (some xv)) H Q) :
    wpAny (model X.prog X.w) A (call (.ref f) [u]) (EP X pins σ fun v H' => Q v H' ∧ ∀ P ps, H P = some (.tbl ps) → ∃ more, H' P = some (.tbl (ps ++ more))) E s := by
  subst hq
  have rc : codeAny (model X.prog X.w) A (.call (.ref f) ⟨[u], []⟩) (CR (L2.CX X.prog X.w) X.stack X.prog X.w H s (fun v H' => Q v H' ∧ ∀ P ps, H P = some (.tbl ps) → ∃ more, H' P = some (.tbl (ps ++ more))) fun _ _ _ => False) s := by
    refine PySem.W.kla_callFunE hdp hf rfl L.co L.gen rfl (codeT_rec I.hok hc) ?_
    rw [hbind]
    refine wpAny_pure (wpAny_newFunctionEnv L.cell (fun y hy => ?_) (fun h₁ hns hsb => ⟨I.nolimit.fresh _ hsb, ?_⟩) L.blk.kind)
    · obtain rfl : y = (x, u) := by simpa using hy
      exact hl
    show codeAny _ _ (.expr body (lamEnv X scope s.heap.objs.size f c')) _ _
    have kp : ∀ b o, s.heap.get? b = some o → h₁.get? b = some o := fun b o e => hsb.extBut b o (Nat.ne_of_lt (Heap.lt_size e)) (Heap.get?_push_of_some _ e)
    have e0 : Env0 X.prog X.w X.K X.mg X.base A X.stack s H := { I.env0 with frames := hA }
    have J : Inv (lamCx X A X.stack s H (fun _ _ _ => False) scope f c') [] ((wipe σ [i]).set i (some xv)) H { s with heap := h₁, toks := s.toks + ([(x, u)] : List (Str × Value)).length } := by
      refine lam_start3 I L hNX e0 hd Un.refl hns kp (by rw [List.length_set, wipe_length]) fun j v e => ?_
      by_cases hj : i = j
      · subst hj
        have hlt : i < (wipe σ [i]).length := by
          have := (List.getElem?_eq_some_iff.mp e).1
          rwa [List.length_set] at this
        rw [List.getElem?_set_self hlt] at e
        cases e
        refine .inr ⟨x, u, List.mem_cons_self, hl, ?_, rv⟩
        simp
      · rw [List.getElem?_set_ne hj, wipe_out (by simpa using fun z => hj z.symm)] at e
        exact .inl ⟨by simpa using fun z => hj z.symm, e⟩
    refine PySem.W.kla_codeExpr (wpAny_mono ((hbody _ _ s H (hr _)).run [] _ _ H Q J h) (fun v s' hq => ?_) fun e s' hq => hq)
    obtain ⟨w', H', J', rv, q⟩ := hq
    have un : Un (frs X.stack) [] H H' s.heap s'.heap := J'.base
    exact ⟨w', H', J'.os, J'.bare, un, J'.hok, rv, q, un.tbls⟩
  refine wpAny_call (codeAny_mono rc fun r s' hq => ?_)
  cases r with
  | error e => obtain ⟨_, _, _, _, _, _, _, _, _, _, _, _, z⟩ := hq; exact z.elim
  | ok fl =>
    cases fl with
    | ret u => exact I.after hq
    | next => exact False.elim hq
    | brk => exact False.elim hq
    | cont => exact False.elim hq
end
end L3
namespace L3
open PySem PySem.Spec PyProof.Rows PySem.W L2 LamX
/-! ### sorted by a lambda -/
/-- what the keys are: R holds all the while, G l v: v is the key of the l-th item -/
structure KeysV (te : TE) (σ : L2.St) (i : Nat) (xs : List V) (R : Nat → Hp → Prop) (G : Nat → V → Hp → Prop) : Prop where
  turn : ∀ j x, xs[j]? = some x → ∀ H, R j H → te ((wipe σ [i]).set i (some x)) H (fun kv H' => R (j + 1) H' ∧ G j kv H' ∧ ∀ l v, G l v H → G l v H')
section
variable {X : Cx} {pins : List (Addr × Obj)} {σ : L2.St} {H : Hp} {s : Shared}
abbrev lObj (xs : Array Value) (n : Nat) : Obj := seqObj "list" xs n
/-- an own list written -/
theorem Inv.own {a : Addr} {o o' : Obj} {pl pl' : List (Addr × Obj)} {h' : Heap} {t' : Nat} (I : Inv X (pl ++ (a, o) :: pl') σ H s) (ha : X.s_0.heap.objs.size ≤ a) (hp : ∀ p ∈ X.pn ++ (pl ++ pl'), p.1 ≠ a) (k : ∀ b u, b ≠ a → s.heap.get? b = some u → h'.get? b = some u) (e : h'.get? a = some o') (nc : ∀ v, o'.data ≠ .cell v) :
    Inv X (pl ++ (a, o') :: pl') σ H { s with heap := h', toks := t' } := by
  have pS := I.pin (a, o) (List.mem_append_right _ (List.mem_append_right _ List.mem_cons_self))
  have hc : ∀ x c, X.env.cells.lookup x = some c → c ≠ a := fun x c ec z => by
    obtain ⟨v, oc, ho, hd⟩ := I.cell x c ec
    rw [z, pS.1] at ho
    cases ho
    exact pS.2.2.2.2 v hd
  have I0 : Inv X (pl ++ pl') σ H s := I.pins_of fun p hp => I.pin p (List.mem_append_right _ ((List.mem_append.mp hp).elim (fun z => List.mem_append_left _ z) fun z => List.mem_append_right _ (List.mem_cons_of_mem _ z)))
  have I1 : Inv X (pl ++ pl') σ H { s with heap := h', toks := t' } := I0.turned (it := a) k pS.2.1 pS.2.2.1 (.inr ha) hc hp
  refine I1.pins_of fun p hp => ?_
  rcases List.mem_append.mp hp with hp | hp
  · exact I1.pin p (List.mem_append_right _ (List.mem_append_left _ hp))
  · rcases List.mem_cons.mp hp with rfl | hp
    · exact ⟨e, pS.2.1, pS.2.2.1, pS.2.2.2.1, nc⟩
    · exact I1.pin p (List.mem_append_right _ (List.mem_append_right _ hp))
def deadHeap (h : Heap) (kS : Addr) : Heap := h.update kS fun o => { o with data := .freed }
theorem deadHeap_self {h : Heap} {kS : Addr} : (deadHeap h kS).get? kS = none := by
  cases h with
  | mk objs l =>
    unfold deadHeap Heap.update Heap.get?
    simp only
    rw [Array.getElem?_modify]
    simp only [if_true]
    cases objs[kS]? with
    | none => rfl
    | some o => rfl
theorem deadHeap_ne {h : Heap} {kS b : Addr} (hb : b ≠ kS) : (deadHeap h kS).get? b = h.get? b := Heap.get?_update_ne _ _ _ _ hb
/-- the keys are made, the list is sorted -/
theorem keyI_rest {A : Around} {E : Value → Shared → Prop} {P : PySem.Fin → Shared → Prop} {te : TE} {i : Nat} {xs : List V} {vs : List Value} {f a kS : Addr} {fo : Obj} {e1 : Nat} {b : Bool} {R : Nat → Hp → Prop} {G : Nat → V → Hp → Prop} {Q : VK} {C : Hp → Prop}
    (I : Inv X ((kS, lObj #[] 0) :: (a, lObj #[] e1) :: (f, fo) :: pins) σ H s) (hka : kS ≠ a) (ha : X.s_0.heap.objs.size ≤ a) (hk : X.s_0.heap.objs.size ≤ kS) (hna : ∀ p ∈ X.pn ++ ((f, fo) :: pins), p.1 ≠ a ∧ p.1 ≠ kS)
    (call1 : ∀ (pl : List (Addr × Obj)) (H : Hp) (s : Shared) (xv : V) (u : Value) (Q : VK) (E : Value → Shared → Prop), Inv X pl σ H s → (f, fo) ∈ pl → (∃ j, R j H) → C H → te ((wipe σ [i]).set i (some xv)) H Q → RelV xv u → wpAny (model X.prog X.w) A (call (.ref f) [u]) (EP X pl σ fun v H' => Q v H' ∧ C H') E s)
    (V0 : KeysV te σ i xs R G) (hR : R 0 H) (hC : C H) (hrv : Vals xs vs) (hZ : xs.length ≤ sizeLine) (hu : A.units + 65 < cLine)
    (fin : ∀ H kvs, R xs.length H → kvs.length = xs.length → (∀ l v, kvs[l]? = some v → G l v H) → ∃ ds, DpAll X.K H kvs ds ∧ AllAlike ds ∧ Sortable ds ∧ PyData.depthAll ds ≤ 60 ∧ ∀ p, H p = none → Q (.ref p) (upd H p (.lst (zipS b xs ds))))
    (post : ∀ s', EP X pins σ Q (.ref a) s' → P (.done (.ret .none)) s') : wpAny (model X.prog X.w) A (ksk_rest a (.ref f) b vs.toArray e1 (.ref kS)) P E s := by
  have nc : ∀ (x : Array Value) (c : Nat) v, (lObj x c).data ≠ .cell v := fun x c v z => by cases z
  have hvl := hrv.length
  unfold ksk_rest
  refine wpAny_bind (wpAny_rule ?_)
  first
    | rw [List.forIn_toArray]
    | (rw [← Array.forIn_toList]; simp only [List.toList_toArray])
    | rw [← Array.forIn_toList]
  refine wpAny_bind (ksk_fold (fun j s' => ∃ H' kvs kA e, Inv X ((kS, lObj kA e) :: (a, lObj #[] e1) :: (f, fo) :: pins) σ H' s' ∧ R j H' ∧ C H' ∧ Vals kvs kA.toList ∧ kvs.length = j ∧ ∀ l v, kvs[l]? = some v → G l v H') vs 0 s
    ⟨H, [], #[], 0, I, hR, hC, .nil, rfl, fun l v e => by simp at e⟩ ?step ?done)
  case step =>
    rintro j u s' hx ⟨H', kvs, kA, e, I', hR', hC', rk, hl, hG⟩
    simp only [Nat.zero_add] at hl hR' ⊢
    obtain ⟨x, hxj, rx⟩ := vals_get' hrv hx
    have hj : j < xs.length := (List.getElem?_eq_some_iff.mp hxj).1
    refine wpAny_bind (wpAny_attempt (wpAny_mono (call1 _ H' s' x u (fun kv H2 => R (j + 1) H2 ∧ G j kv H2 ∧ ∀ l v, G l v H' → G l v H2) (fun _ _ => False) I' (by simp) ⟨j, hR'⟩ hC' (V0.turn j x hxj H' hR') rx) (fun v s2 hq => ?_) fun _ _ hF => hF.elim))
    obtain ⟨kv, H2, I2, rkv, ⟨hR2, hG2, hGk⟩, hC2⟩ := hq
    try dsimp only
    have nk := (I2.pin (kS, lObj kA e) (List.mem_append_right _ List.mem_cons_self)).1
    have s1 := Heap.SameBut.update s2.heap kS (Obj.mapSeq (·.push v))
    obtain ⟨c2, hc2⟩ : ∃ c2, (s2.heap.update kS (Obj.mapSeq (·.push v))).get? kS = some (seqObj "list" (kA.push v) c2) := ⟨_, get?_update_seq nk (·.push v)⟩
    have hks : kvs.length = kA.size := by
      have h1 := Vals.length rk
      rwa [Array.length_toList] at h1
    have hz : kA.size ≤ xs.length := by rw [← hks, hl]; exact Nat.le_of_lt hj
    refine wpAny_bind (listUpdate_at nk rfl ?_ (Nat.le_trans hz hZ) (Nat.le_trans (Nat.le_of_eq (Array.size_push ..)) (Nat.succ_le_succ (Nat.le_trans hz hZ))))
    have I3 : Inv X ((kS, lObj (kA.push v) c2) :: (a, lObj #[] e1) :: (f, fo) :: pins) σ H2 { s2 with heap := s2.heap.update kS (Obj.mapSeq (·.push v)), toks := s2.toks } :=
      Inv.own (pl := []) I2 hk (fun p hp => ?_) (fun b u hb e => (s1.2 b hb).trans e) hc2 (nc _ _)
    refine wpAny_pure ⟨rfl, H2, kvs ++ [kv], kA.push v, c2, I3, hR2, hC2, ?_, ?_, fun l w hl2 => ?_⟩
    · rw [show (kA.push v).toList = kA.toList ++ [v] by simp]
      exact Vals.append rk (.cons rkv .nil)
    · rw [List.length_append, hl]; rfl
    · rw [List.getElem?_append] at hl2
      split at hl2
      · exact hGk l w (hG l w hl2)
      · rename_i hge
        have : l - kvs.length = 0 := by
          rcases Nat.eq_zero_or_pos (l - kvs.length) with z | z
          · exact z
          · rw [List.getElem?_eq_none (by rw [List.length_singleton]; exact z)] at hl2; cases hl2
        rw [this] at hl2
        have e3 : l = j := by omega
        cases hl2
        rw [e3]; exact hG2
    · rcases List.mem_append.mp hp with hp | hp
      · exact (hna p (List.mem_append_left _ hp)).2
      · rcases List.mem_cons.mp hp with rfl | hp
        · exact hka.symm
        · exact (hna p (List.mem_append_right _ hp)).2
  case done =>
    rintro s' ⟨H', kvs, kA, e, I', hR', hC', rk, hl, hG⟩
    have hl' : kvs.length = xs.length := by omega
    obtain ⟨ds, hd, hal, hsk, hdp, q⟩ := fin H' kvs (by rw [← hl', hl]; exact hR') hl' hG
    obtain ⟨as, hr⟩ := Dp.readsAll I' _ _ _ hd rk
    have e1' := dpAll_length hd
    have hlen : ds.length = xs.length := by omega
    have pk := I'.pin (kS, lObj kA e) (List.mem_append_right _ List.mem_cons_self)
    have pa := I'.pin (a, lObj #[] e1) (List.mem_append_right _ (List.mem_cons_of_mem _ List.mem_cons_self))
    have hks : kvs.length = kA.size := by
      have h1 := Vals.length rk
      rwa [Array.length_toList] at h1
    have hsz : kA.size = vs.length := by rw [← hks, hl', hvl]
    have hrd : EachIs (fun v k => ∃ as, Reads s'.heap v k as) kA.toList ds := by
      have := each_reads hr rk.length
      have e2 := zip_snd e1'
      rw [← e2]
      clear e2
      revert this
      generalize kvs.zip ds = ps
      generalize kA.toList = us
      intro this
      induction this with
      | nil => exact .nil
      | cons h t ih => exact .cons h ih
    try dsimp only
    refine wpAny_bind (listItems_at pk.1 rfl ?_)
    have hdm : ∀ d, d ∈ ds → A.units + d.depth < cLine := fun d hd => by
      have := depthAll_mem hd
      omega
    refine keyH_end (κ := dataKind s'.heap ds) (h₁ := deadHeap s'.heap kS) (fun b o hb e => ?_) deadHeap_self pk.1 pa.1 hka (SortsAt.data (s := s') hrd hal hsk hdm) hsz (by omega) fun h' tk c kp ga => ?_
    · by_cases hbk : b = kS
      · subst hbk; rw [deadHeap_self] at e; cases e
      · rw [deadHeap_ne hbk] at e; exact e
    · have ko : KeyedOut b ds vs (sortVals (dataKind s'.heap ds) b kA.toList vs) := ⟨s'.heap, kA.toList, hal, rfl, hrd⟩
      have hout := keyedOut_each (R := fun u (p : V × PyData) => RelV p.1 u) (bs := xs.zip ds) (fun p => p.2) (by rw [zip_snd hlen.symm]; exact ko) (each_zip hrv hlen)
      have rvo := each_vals hout
      have hlo : (zipS b xs ds).length ≤ sizeLine := by
        unfold zipS
        rw [List.length_map, List.length_mergeSort, List.length_zip, hlen, Nat.min_self]
        exact hZ
      have keepA : ∀ c o, c ≠ a → c ≠ kS → s'.heap.get? c = some o → h'.get? c = some o := fun c o hb hbk e => kp c o hb (by rw [deadHeap_ne hbk]; exact e)
      have ne : ∀ c u, H' c = some u → c ≠ a ∧ c ≠ kS := fun c u e => ⟨fun z => (by rw [z, pa.2.1] at e; cases e), fun z => (by rw [z, pk.2.1] at e; cases e)⟩
      have up : ∀ c u, H' c = some u → upd H' a (.lst (zipS b xs ds)) c = some u := fun c u e => by rw [upd_ne (ne c u e).1]; exact e
      have hcell : ∀ (q : Addr) (o : Obj), s'.heap.get? q = some o → (∀ v, o.data ≠ .cell v) → ∀ x c, X.env.cells.lookup x = some c → c ≠ q := fun q o hq hd x c ec z => by
        obtain ⟨v, oc, ho, hd'⟩ := I'.cell x c ec
        rw [z, hq] at ho
        cases ho
        exact hd v hd'
      have I0 : Inv X pins σ H' s' := I'.pins_of fun p hp => I'.pin p (List.mem_append_right _ (List.mem_cons_of_mem _ (List.mem_cons_of_mem _ (List.mem_cons_of_mem _ hp))))
      have hp0 : ∀ p ∈ X.pn ++ pins, p.1 ≠ a ∧ p.1 ≠ kS := fun p hp => hna p ((List.mem_append.mp hp).elim (fun z => List.mem_append_left _ z) fun z => List.mem_append_right _ (List.mem_cons_of_mem _ z))
      have hne : ∀ c, c ∉ [a, kS] → c ≠ a ∧ c ≠ kS := fun c hc => by simpa using hc
      refine post _ ⟨.ref a, upd H' a (.lst (zipS b xs ds)), I0.step (g' := s'.gens) (t' := tk) (d' := s'.drawn) (h' := h') (H' := upd H' a (.lst (zipS b xs ds))) (ch := [a, kS]) (fun c hc => ?_) (fun c o _ _ hc e _ => keepA c o (hne c hc).1 (hne c hc).2 e) (fun c o _ _ hc e _ => ⟨o.slots, keepA c o (hne c hc).1 (hne c hc).2 e⟩) (fun c o hc _ n => ?_)
        (fun c o hc e => ⟨o, keepA c o (hne c hc).1 (hne c hc).2 e⟩) (fun c _ e => up c _ e) (fun c _ _ e => up c _ e) (fun c ps e => ⟨#[], by rw [up c _ e]; simp⟩) (fun m hm => ?_) (fun c u e => ?_) I0.bare, rfl, q a pa.2.1⟩
      · rcases List.mem_cons.mp hc with rfl | hc
        · exact ⟨.inr ha, pa.2.2.1, hcell _ _ pa.1 pa.2.2.2.2, fun p hp => (hp0 p hp).1⟩
        · obtain rfl := List.mem_singleton.mp hc
          exact ⟨.inr hk, pk.2.2.1, hcell _ _ pk.1 pk.2.2.2.2, fun p hp => (hp0 p hp).2⟩
      · rw [upd_ne (hne c hc).1]; exact n
      · obtain ⟨o, es, ep, ho, r⟩ := hm
        exact ⟨o, es, ep, keepA _ o (Ne.symm pa.2.2.1) (Ne.symm pk.2.2.1) ho, r⟩
      · by_cases hc : c = a
        · subst hc
          rw [upd_same] at e
          cases e
          exact ⟨hlo, _, _, rvo, ga⟩
        · rw [upd_ne hc] at e
          exact (I'.hok c u e).stay (fun d v hd q => keepA d v (by
            rcases hd with z | z
            · rw [z]; exact hc
            · exact (ne d _ z).1) (by
            rcases hd with z | z
            · rw [z]; exact (ne c _ e).2
            · exact (ne d _ z).2) q) (fun d q => up d _ q) fun d _ q => up d _ q
end
end L3

namespace L3
open PySem PySem.Spec PyProof.Rows PySem.W L2 LamX
section
variable {X : Cx} {pins : List (Addr × Obj)} {σ : L2.St} {H : Hp} {s : Shared}
theorem nc_list (x : Array Value) (c : Nat) (v : Option Value) : (lObj x c).data ≠ .cell v := fun z => by cases z
/-- xs.sort(key=f) of a new list, f a lambda -/
theorem keyI_tree {A : Around} {E : Value → Shared → Prop} {P : PySem.Fin → Shared → Prop} {te : TE} {i : Nat} {xs : List V} {vs : List Value} {f : Addr} {fo : Obj} {b : Bool} {R : Nat → Hp → Prop} {G : Nat → V → Hp → Prop} {Q : VK} {C : Hp → Prop}
    (I : Inv X ((f, fo) :: pins) σ H s)
    (call1 : ∀ (pl : List (Addr × Obj)) (H : Hp) (s : Shared) (xv : V) (u : Value) (Q : VK) (E : Value → Shared → Prop), Inv X pl σ H s → (f, fo) ∈ pl → (∃ j, R j H) → C H → te ((wipe σ [i]).set i (some xv)) H Q → RelV xv u → wpAny (model X.prog X.w) A (call (.ref f) [u]) (EP X pl σ fun v H' => Q v H' ∧ C H') E s)
    (V0 : KeysV te σ i xs R G) (hR : R 0 H) (hC : C H) (hrv : Vals xs vs) (hZ : xs.length ≤ sizeLine) (hu : A.units + 65 < cLine)
    (fin : ∀ H kvs, R xs.length H → kvs.length = xs.length → (∀ l v, kvs[l]? = some v → G l v H) → ∃ ds, DpAll X.K H kvs ds ∧ AllAlike ds ∧ Sortable ds ∧ PyData.depthAll ds ≤ 60 ∧ ∀ p, H p = none → Q (.ref p) (upd H p (.lst (zipS b xs ds))))
    (post : ∀ s', EP X pins σ Q (.ref s.heap.objs.size) s' → P (.done (.ret .none)) s') : wpAny (model X.prog X.w) A (ksk_tree s.heap.objs.size (.ref f) b) P E { s with heap := s.heap.push (lObj vs.toArray 0) } := by
  have hvl := Vals.length hrv
  have ho : (s.heap.push (lObj vs.toArray 0)).get? s.heap.objs.size = some (lObj vs.toArray 0) := Heap.get?_push_size _ rfl
  obtain ⟨e1, ho1⟩ : ∃ e1, ((s.heap.push (lObj vs.toArray 0)).update s.heap.objs.size (Obj.mapSeq fun _ => (#[] : Array Value))).get? s.heap.objs.size = some (lObj #[] e1) := ⟨_, get?_update_seq ho fun _ => #[]⟩
  have hsz : (((s.heap.push (lObj vs.toArray 0)).update s.heap.objs.size (Obj.mapSeq fun _ => (#[] : Array Value))).push (seqObj "tuple" vs.toArray 0)).objs.size = s.heap.objs.size + 1 + 1 := by
    rw [size_push', Heap.size_update, size_push']
  have kp : ∀ b o, s.heap.get? b = some o → ((((s.heap.push (lObj vs.toArray 0)).update s.heap.objs.size (Obj.mapSeq fun _ => (#[] : Array Value))).push (seqObj "tuple" vs.toArray 0)).push (lObj #[] 0)).get? b = some o := fun b o e => by
    refine Heap.get?_push_of_some _ (Heap.get?_push_of_some _ ?_)
    rw [Heap.get?_update_ne _ _ _ _ (Nat.ne_of_lt (Heap.lt_size e))]
    exact Heap.get?_push_of_some _ e
  unfold ksk_tree
  refine wpAny_bind (listItems_at ho rfl ?_)
  refine wpAny_bind (listUpdate_at ho rfl ?_ (by rw [List.size_toArray, ← hvl]; exact hZ) (Nat.zero_le _))
  refine wpAny_bind (seqEpoch_at ho1 rfl ?_)
  refine wpAny_bind (wpAny_newTuple ?_ (by show vs.length ≤ _; rw [← hvl]; exact hZ))
  refine wpAny_bind (wpAny_newList ?_ (Nat.zero_le _))
  refine wpAny_holding ?_
  have I1 : Inv X ((f, fo) :: pins) σ H { s with heap := (((s.heap.push (lObj vs.toArray 0)).update s.heap.objs.size (Obj.mapSeq fun _ => (#[] : Array Value))).push (seqObj "tuple" vs.toArray 0)).push (lObj #[] 0) } := I.kept (t' := s.toks) kp
  have hge : ∀ q, s.heap.objs.size ≤ q → H q = none ∧ q ≠ X.env.locals ∧ q ∉ X.fs := fun q hq => ⟨I.hok.fresh hq, Nat.ne_of_gt (Nat.lt_of_lt_of_le I.lt hq), I.nofs hq⟩
  have hs1 : s.heap.objs.size ≤ s.heap.objs.size + 1 + 1 := by omega
  have hpn : ∀ p ∈ X.pn ++ ((f, fo) :: pins), p.1 < s.heap.objs.size := fun p hp => Heap.lt_size (I.pin p hp).1
  refine keyI_rest (s := { s with heap := (((s.heap.push (lObj vs.toArray 0)).update s.heap.objs.size (Obj.mapSeq fun _ => (#[] : Array Value))).push (seqObj "tuple" vs.toArray 0)).push (lObj #[] 0) }) (X := X) (pins := pins) (σ := σ) (H := H) (fo := fo) (a := s.heap.objs.size) (kS := (((s.heap.push (lObj vs.toArray 0)).update s.heap.objs.size (Obj.mapSeq fun _ => (#[] : Array Value))).push (seqObj "tuple" vs.toArray 0)).objs.size) ?_ (by rw [hsz]; exact Nat.ne_of_gt (Nat.lt_succ_of_lt (Nat.lt_succ_self _))) I.sz (by rw [hsz]; exact Nat.le_trans I.sz hs1) (fun p hp => ⟨Nat.ne_of_lt (hpn p hp), by rw [hsz]; exact Nat.ne_of_lt (Nat.lt_of_lt_of_le (hpn p hp) hs1)⟩) call1 V0 hR hC hrv hZ hu fin post
  refine I1.pins_of fun p hp => ?_
  rcases List.mem_cons.mp hp with rfl | hp
  · refine ⟨Heap.get?_push_size _ rfl, ?_⟩
    obtain ⟨h1, h2, h3⟩ := hge _ hs1
    rw [← hsz] at h1 h2 h3
    exact ⟨h1, h2, h3, nc_list _ _⟩
  · rcases List.mem_cons.mp hp with rfl | hp
    · obtain ⟨h1, h2, h3⟩ := hge _ (Nat.le_refl _)
      exact ⟨Heap.get?_push_of_some _ (Heap.get?_push_of_some _ ho1), h1, h2, h3, nc_list _ _⟩
    · exact I1.pin p (List.mem_append_right _ hp)
/-- sorted(range(..), key=lambda x: e) -/
def tSortedK (K : PySem.W.Frag) (b : Bool) (tr : L2.St → Hp → (Int → Int → Hp → Prop) → Prop) (MkR : Hp → Prop) (P : Addr) (nmf : Nat → Nat → Str) (nm : Str) (lpos : Pos) (i : Nat) (te : TE) : TE := fun σ H Q => tr σ H fun lo hi H1 => RgOk lo hi ∧ MkR H1 ∧ TabOk H1 (some nmf) P ∧
  ∀ H2 c' P', GrowT P nm lpos H1 H2 c' P' → ∃ R G, KeysV te σ i (rgV lo hi) R G ∧ R 0 H2 ∧ (∀ j H, R j H → TabOk H (some nmf) P) ∧
    ∀ H kvs, R (rgV lo hi).length H → kvs.length = (rgV lo hi).length → (∀ l v, kvs[l]? = some v → G l v H) → ∃ ds, DpAll K H kvs ds ∧ AllAlike ds ∧ Sortable ds ∧ PyData.depthAll ds ≤ 60 ∧ ∀ p, H p = none → Q (.ref p) (upd H p (.lst (zipS b (rgV lo hi) ds)))
theorem bt_sorted' : bootBuiltins "sorted" = some (.builtin "sorted") := by decide +kernel
theorem pe_sortedK {nmf : Nat → Nat → Str} {MkR : Hp → Prop} {c P : Addr} {k i : Nat} {x : Str} {e : Expr} {tr : L2.St → Hp → (Int → Int → Hp → Prop) → Prop} {params : Arguments} {body : Expr} {scope : Scope} {te : TE} {p lpos kpos pos : Pos} (hc : X.calm = true) (hr : Room (k + 1) X.A) (hg : Gl X "sorted") (hm : X.mg "sorted" = none)
    (he : PRg X e tr) (hM : MkSrc X MkR c P) (hnm : nmf lpos.line lpos.col = X.env.qual ++ "<lambda>") (L : LamOk X scope [(x, i)]) (hNX : X.N.Nodup) (hl : scope.names.lookup x = some .local) (hdef : defaultsOf params X.env = ([], []))
    (hbind : ∀ (q : Str) (cl : List (Str × Addr)) (pm cv ctv u : Value), bindArgs (PySem.W.kla_fn "<lambda>" q params body scope cl pm cv ctv) ⟨[u], []⟩ = pure [(x, u)])
    (hbody : ∀ (A : Around) (outer : List Env) (s : Shared) (H : Hp) (f c' : Addr), Room k (A.deeper (lamEnv X scope s.heap.objs.size f c')) → PE (lamCx X A outer s H (fun _ _ _ => False) scope f c') body te)
    (na : starEach [e] X.env = (false, eval e X.env) :: starEach [] X.env := by rfl) :
    PE X (.Call (.Name "sorted" p) [e] [⟨some "key", .Lambda params body scope lpos, kpos⟩] pos) (tSortedK X.K false tr MkR P nmf (X.env.qual ++ "<lambda>") lpos i te) := by
  refine ⟨fun pins s σ H Q I h => ?_⟩
  refine wpAny_Call_Name_kw (ld_blt I hg hm bt_sorted' ?_)
  refine PyProof.Rows.callWith_kw (args_cons (thn (he pins s σ H _ I h) fun xr s1 ⟨r, lo, hi, t, u, v, H1, ex, hrg, I1, ok, hmk, hT, q⟩ => args_nil ?_) na) (by rw [na]; rfl) (by rw [na]; rfl)
  subst ex
  show wpAny _ _ (evalAll ((do let v ← eval (.Lambda params body scope lpos) X.env; standAt pos; pure v) :: [])) _ _ s1
  refine wpAny_evalAll_cons (wpAny_bind (lam_make3 I1 L hM hmk hT hnm hdef fun f c' P' pm' ctv H2 s2 I2 gr hco hf hfn hfr hfs hpl kp => wpAny_bind (wpAny_standAt (wpAny_pure ?_))))
  refine wpAny_evalAll_nil ?_
  have hrP : r ≠ P := fun z => by
    subst z
    obtain ⟨cf, pf, nf, hP, _⟩ := hT
    have h1 : s1.heap.get? r = some _ := I1.hok r _ hP
    obtain ⟨o, h2⟩ := (⟨_, hrg⟩ : ∃ o, s1.heap.get? r = some o)
    have h3 : s1.heap.get? r = some { cls := .type "range", data := .fields #[.int lo t, .int hi u, .int 1 v] } := hrg
    rw [h1] at h3
    cases h3
  have hrg2 : IsRange s2.heap r lo hi 1 t u v := kp _ _ hrP hrg
  obtain ⟨b1, b2, b3, b4, b5⟩ := ok
  obtain ⟨R, G, V0, hR, hcode, fin⟩ := q H2 c' P' gr
  have I3 : Inv X ((f, _) :: pins) σ H2 s2 := I2.pins_of fun p hp => by
    rcases List.mem_cons.mp hp with rfl | hp
    · exact ⟨hf, hfn, Nat.ne_of_gt (Nat.lt_of_lt_of_le I1.lt hfs), I1.nofs hfs, fun v z => by cases z⟩
    · exact I2.pin p (List.mem_append_right _ hp)
  refine call_function_entry_kw kind_sorted plain_sorted entry_sorted (ksk_s1 _ _) ?_
  unfold Builtin.«sorted»
  refine wpAny_bind (m := checkCount "sorted" 1 1 _) (wpAny_pure ?_)
  refine wpAny_bind (collect_range (A := X.A.in1) (n := (hi - lo).toNat) (I1.ok.hd hc) hrg2 (small_one b1 b2 b3 b4) (rangeSize_nat lo hi) b5 fun h' tk acc hk hi' => ?_)
  have rv := vals_rg hi'
  have hlen : (rgV lo hi).length ≤ sizeLine := by rw [rgV_length, sizeLine_eq]; omega
  refine wpAny_bind (wpAny_newList ?_ (by rw [← Vals.length rv]; exact hlen))
  have I4 : Inv X ((f, _) :: pins) σ H2 { s2 with heap := h', toks := tk } := I3.kept hk
  refine wpAny_bind (wpAny_holding (wpAny_call_entry_kw slot_list_sort ⟨_, Heap.get?_push_size _ rfl, rfl⟩ entry_list_sort ?_ (ksk_l1 _ _)))
  show wpAny _ _ (Builtin.«list.sort» ⟨[.ref h'.objs.size], [(Str.ofString "key", .ref f)]⟩) _ _ _
  rw [ksk_t1]
  refine keyI_tree (X := X) (A := X.A.in1.in1) (b := false) (s := { s2 with heap := h', toks := tk }) (C := AtPl P lpos c') I4 ?_ V0 hR hpl rv hlen (by have := hr.un; show X.A.units + 1 + 1 + 65 < _; omega) fin fun s' hq => ⟨_, rfl, wpAny_pure ⟨_, rfl, hq⟩⟩
  rintro pl H s xv u Q E Ip hpf ⟨j, hRH⟩ hCH hte rvx
  obtain ⟨P1, hc1⟩ := hCH.code (hcode j H hRH)
  rw [hnm] at hc1
  refine wpAny_mono (lam_callK Ip Ip.ok.frames hr.hd hr.depth (room_in2 hr) L hNX hl (Ip.pin _ (List.mem_append_right _ hpf)).1 rfl hc1 (hbind _ _ _ _ _ _) rvx (fun A outer s H r => hbody A outer s H f c' r) hte) (fun v s' hq => ?_) fun _ _ e => e
  obtain ⟨w', H', I', rw', q1, q2⟩ := hq
  refine ⟨w', H', I', rw', q1, ?_⟩
  obtain ⟨ps, h1, h2⟩ := hCH
  obtain ⟨more, h3⟩ := q2 P ps h1
  exact ⟨_, h3, by rw [Array.toList_append]; exact among_more _ _ h2⟩
end
end L3

namespace L3
open PySem L2
variable [Md]
section
variable [Tb]
/-! ### keys by a lambda, on data -/
def kysD (i : Nat) (fk : M R) : List D → DEnv → Option (List D × DEnv)
  | [], ρ => some ([], ρ)
  | d :: ds, ρ => match fk ((wipeD ρ [i]).set i (some (.sh d))) with
    | some (.ok (.val k), ρ1) => match kysD i fk ds ρ1 with
      | some (ks, ρ2) => some (k :: ks, ρ2)
      | none => none
    | _ => none
theorem kysD_length {i : Nat} {fk : M R} : ∀ {ds : List D} {ρ ρ' : DEnv} {ks : List D}, kysD i fk ds ρ = some (ks, ρ') → ks.length = ds.length
  | [], ρ, ρ', ks, h => by cases h; rfl
  | d :: ds, ρ, ρ', ks, h => by
    unfold kysD at h
    split at h
    · split at h
      · rename_i q
        cases h
        rw [List.length_cons, List.length_cons, kysD_length q]
      · cases h
    · cases h
/-- the items sorted by their keys -/
def zipD (b : Bool) (ds ks : List D) : List D := ((ds.zip ks).mergeSort fun p q => dle b p.2 q.2).map (·.1)
def fSortedK (b : Bool) (i : Nat) (f : M (Int × Int)) (fk : M R) : M R := f.bind fun p ρ => if (rgOk p.1 p.2 && noOwn ρ i && decide (i < ρ.length)) = true then match kysD i fk (rgD p.1 p.2) ρ with
  | some (ks, ρ1) => if srtOk ks = true then some (.ok (.fresh (.lst (zipD b (rgD p.1 p.2) ks))), putBack ρ ρ1 [i]) else none
  | none => none else none
theorem zipK_rp {B : Addr → Prop} {H : Hp} {b : Bool} {us : List V} {ds ks : List D} (r : RpAll B H us ds) (hl : ks.length = ds.length) : RpAll B H (zipS b us (toPys ks)) (zipD b ds ks) := by
  have hlen := r.length
  have e1 : us.zip (toPys ks) = (us.zip ks).map fun p => (p.1, toPy p.2) := by
    rw [toPys_eq]
    have := List.zip_map_right (f := toPy) (l₁ := us) (l₂ := ks)
    rw [this]
    congr 1
  have e3 : zipS b us (toPys ks) = ((us.zip ks).mergeSort fun p q => dle b p.2 q.2).map (·.1) := by
    unfold zipS
    rw [e1, ← List.map_mergeSort (r := fun p q : V × D => dle b p.2 q.2) (fun p _ q _ => by rw [PySem.W.dataLe_eq]; rfl), List.map_map]
    rfl
  -- the triples
  have t1 : us.zip ks = ((us.zip ds).zip ks).map fun p => (p.1.1, p.2) := by
    apply List.ext_getElem
    · simp only [List.length_zip, List.length_map]; omega
    · intro n h1 h2
      simp
  have t2 : ds.zip ks = ((us.zip ds).zip ks).map fun p => (p.1.2, p.2) := by
    apply List.ext_getElem
    · simp only [List.length_zip, List.length_map]; omega
    · intro n h1 h2
      simp
  have e4 : zipS b us (toPys ks) = (((us.zip ds).zip ks).mergeSort fun p q => dle b p.2 q.2).map fun p => p.1.1 := by
    rw [e3, t1, ← List.map_mergeSort (f := fun p : (V × D) × D => (p.1.1, p.2)) (s := fun p q : V × D => dle b p.2 q.2) (r := fun p q : (V × D) × D => dle b p.2 q.2) (fun p _ q _ => rfl), List.map_map]
    rfl
  have e5 : zipD b ds ks = (((us.zip ds).zip ks).mergeSort fun p q => dle b p.2 q.2).map fun p => p.1.2 := by
    unfold zipD
    rw [t2, ← List.map_mergeSort (f := fun p : (V × D) × D => (p.1.2, p.2)) (s := fun p q : D × D => dle b p.2 q.2) (r := fun p q : (V × D) × D => dle b p.2 q.2) (fun p _ q _ => rfl), List.map_map]
    rfl
  rw [e4, e5]
  have all : ∀ l : List ((V × D) × D), (∀ p ∈ l, Rp B H p.1.1 p.1.2) → RpAll B H (l.map fun p => p.1.1) (l.map fun p => p.1.2) := by
    intro l
    induction l with
    | nil => intro _; exact .nil
    | cons p l ih => intro h; exact .cons (h p List.mem_cons_self) (ih fun q hq => h q (List.mem_cons_of_mem _ hq))
  refine all _ fun p hp => ?_
  have hp' := List.mem_mergeSort.mp hp
  obtain ⟨n, hn, he⟩ := List.getElem_of_mem hp'
  rw [List.getElem_zip, List.getElem_zip] at he
  have hn1 : n < us.length := by rw [List.length_zip, List.length_zip] at hn; omega
  have hn2 : n < ds.length := by omega
  obtain ⟨v, e6, e7⟩ := r.get (List.getElem?_eq_getElem hn2)
  rw [List.getElem?_eq_getElem hn1] at e6
  cases e6
  rw [← he]
  exact e7
end
section
variable [tb : Tb] {X : Cx} {W : WX}
theorem dpAll_rb {K : PySem.W.Frag} {B : Addr → Prop} {H : Hp} : ∀ {vs : List V} {ds : List D}, vs.length = ds.length → (∀ (l : Nat) (v : V), vs[l]? = some v → ∃ d, ds[l]? = some d ∧ Rp B H v d) → PyData.canLayAll0 (toPys ds) = true → DpAll K H vs (toPys ds)
  | [], [], _, _, _ => by rw [toPys]; exact .nil
  | v :: vs, d :: ds, hl, h, c => by
    rw [toPys] at c ⊢
    rw [PyData.canLayAll0, Bool.and_eq_true] at c
    obtain ⟨d', e1, r⟩ := h 0 v rfl
    cases e1
    exact .cons (Rb.dp (.inl r) c.1) (dpAll_rb (by simpa using hl) (fun l w e => by
      obtain ⟨d'', e2, r2⟩ := h (l + 1) w (by simpa using e)
      exact ⟨d'', by simpa using e2, r2⟩) c.2)
theorem snd_sortedK {b : Bool} {MkR : Hp → Prop} {P : Addr} {nmf : Nat → Nat → Str} {nm : Str} {lpos : Pos} {i : Nat} {tr : L2.St → Hp → (Int → Int → Hp → Prop) → Prop} {te : TE} {f : M (Int × Int)} {fk : M R} {mg : Str → Option Value} {K : PySem.W.Frag} (hT : (P, some nmf) ∈ tb.T) (hn : ∀ p ∈ tb.T, p.1 = P → ∀ g, p.2 = some g → g = nmf) (hnm : nmf lpos.line lpos.col = nm)
    (hMk : ∀ F A O σ H ρ, Rel F A O σ H ρ → MkR H)
    (hr : ∀ F A O σ H ρ r ρ' (Q : Int → Int → Hp → Prop), Rel F A O σ H ρ → f ρ = some (r, ρ') → (match r with
      | .ok o => ∀ H', Tr O H O H' → Rel F A O σ H' ρ' → Q o.1 o.2 H'
      | .error x => XPost mg W F A O σ H ρ' x) → tr σ H Q) (hk : Snd mg W0 te fk) : Snd mg W (tSortedK K b tr MkR P nmf nm lpos i te) (fSortedK b i f fk) := by
  intro F A O σ H ρ r ρ' Q rel hf post
  unfold fSortedK M.bind at hf
  split at hf
  · rename_i p ρ0 q
    refine hr F A O σ H ρ _ _ _ rel q fun H1 t1 rel1 => ?_
    simp only at hf
    split at hf
    · rename_i hc
      simp only [Bool.and_eq_true, decide_eq_true_eq] at hc
      obtain ⟨⟨hrg, hno⟩, hil⟩ := hc
      refine ⟨rgOk_ok hrg, hMk _ _ _ _ _ _ rel1, rel1.tabs.t _ hT, fun H2 c' P' gr => ?_⟩
      split at hf
      · rename_i ks ρF hks
        split at hf
        · rename_i hs
          cases hf
          have rel2 := gr.rel (fun p hp e g eg => by rw [hn p hp e g eg, hnm]) rel1
          have t2 : Tr O H O H2 := t1.trans gr.tr
          have no : ∀ v ∈ [i], ∀ d, ρ0[v]? ≠ some (some (.ow d)) ∧ ρ0[v]? ≠ some (some (.io d)) := fun v hv d => by
            obtain rfl := List.mem_singleton.mp hv
            unfold noOwn at hno
            refine ⟨fun e => ?_, fun e => ?_⟩
            · rw [e] at hno; cases hno
            · rw [e] at hno; cases hno
          have hkl := kysD_length hks
          refine ⟨fun j H => ∃ ρj, Tr O H2 O H ∧ Rel F A O (L2.wipe σ [i]) H (wipeD ρj [i]) ∧ ∃ ks', kysD i fk ((rgD p.1 p.2).drop j) ρj = some (ks', ρF) ∧ ks' = ks.drop j, fun l v H => ∃ k, ks[l]? = some k ∧ Rp (Bad F A O) H v k,
            ⟨fun j x hx H h => ?_⟩, ⟨ρ0, Tr.refl, Rel.wipe rel2 rfl (fun _ _ => rfl), ks, by simpa using hks, rfl⟩, fun j H h => ?_, fun H kvs h hl hG => ?_⟩
          · obtain ⟨ρj, tr, rl, ks', hk2, hks2⟩ := h
            obtain ⟨d, hd, rpx⟩ := (rp_rg (Bad F A O) H p.1 p.2).get' hx
            obtain ⟨hlt, hde⟩ := List.getElem?_eq_some_iff.mp hd
            have hdr : (rgD p.1 p.2).drop j = d :: (rgD p.1 p.2).drop (j + 1) := by rw [List.drop_eq_getElem_cons hlt, hde]
            rw [hdr] at hk2
            unfold kysD at hk2
            split at hk2
            · rename_i k ρ1 e1
              · split at hk2
                · rename_i ks3 ρ2 e2
                  cases hk2
                  have hil' : i < (wipeD ρj [i]).length := by
                    have h1 := rl.lenS
                    have h2 := rel2.lenS
                    rw [wipe_length] at h1
                    omega
                  have rs := Rel.setS0 rl hil' rpx
                  refine hk F A O _ H _ _ _ _ rs e1 (PostE.use fun H4 y t4 rel6 rb => ?_)
                  have rbd : Rp (Bad F A O) H4 y k := rb
                  have hlen : ((L2.wipe σ [i]).set i (some x)).length = σ.length := by rw [List.length_set, wipe_length]
                  have agv : ∀ q, q ∉ [i] → ((L2.wipe σ [i]).set i (some x))[q]? = σ[q]? := fun q hq => by
                    rw [List.getElem?_set_ne (by simpa using fun z => hq (by simp [z])), wipe_out hq]
                  have e5 : ks.drop j = k :: ks.drop (j + 1) ∧ ks3 = ks.drop (j + 1) := by
                    cases hq : ks.drop j with
                    | nil => rw [hq] at hks2; cases hks2
                    | cons a as' =>
                      rw [hq] at hks2
                      have h1 : k = a := (List.cons.inj hks2).1
                      have h2 : ks3 = as' := (List.cons.inj hks2).2
                      have h3 : ks.drop (j + 1) = as' := by
                        rw [← List.drop_drop, hq]; rfl
                      exact ⟨by rw [h3, h1], by rw [h3, h2]⟩
                  have hkj : ks[j]? = some k := by
                    have := congrArg (fun l : List D => l[0]?) e5.1
                    simpa using this
                  refine ⟨⟨ρ1, tr.trans t4, Rel.wipe rel6 hlen agv, ks3, e2, e5.2⟩, ⟨k, hkj, rbd⟩, fun l w hw => ?_⟩
                  obtain ⟨k', e6, r6⟩ := hw
                  exact ⟨k', e6, r6.tr t4⟩
                · cases hk2
            · cases hk2
          · obtain ⟨ρj, tr, rl, _⟩ := h
            exact rl.tabs.t _ hT
          · obtain ⟨ρj, tr, rl, ks', hk2, hks2⟩ := h
            obtain ⟨h1, h2, h3, h4⟩ := srtOk_iff hs
            have hul : (L2.rgV p.1 p.2).length = (rgD p.1 p.2).length := (rp_rg (Bad F A O) H p.1 p.2).length
            have hkv : kvs.length = ks.length := by rw [hl, hkl, hul]
            have e7 : ρj = ρF := by
              rw [List.drop_eq_nil_of_le (by omega)] at hk2
              unfold kysD at hk2
              cases hk2
              rfl
            subst e7
            refine ⟨toPys ks, dpAll_rb hkv hG h1, h3, h4, h2, fun q hq => ?_⟩
            exact post H q _ (t2.trans tr) (rel2.back tr no rl) hq (.lst (zipK_rp (rp_rg _ _ _ _) hkl))
        · cases hf
      · cases hf
    · cases hf
  · rename_i x ρ1 q
    cases hf
    exact hr F A O σ H ρ _ _ _ rel q post
  · cases hf
end
end L3
namespace L3
open PySem L2
variable [Md]
section
variable [tb : Tb] {X : Cx} {W : WX}
theorem ev_sortedK {nmf : Nat → Nat → Str} {c P : Addr} {k : Nat} {x : Str} {e : Expr} {tr : L2.St → Hp → (Int → Int → Hp → Prop) → Prop} {params : Arguments} {body : Expr} {scope : Scope} {te : TE} {f : M (Int × Int)} {fk : M R} {p lpos kpos pos : Pos} (i : Nat) (hc : X.calm = true) (hr : Room (k + 1) X.A) (hg : Gl X "sorted") (hm : X.mg "sorted" = none)
    (he : EvG X W e tr f) (M : Mk X c P nmf) (hnm : nmf lpos.line lpos.col = X.env.qual ++ "<lambda>") (L : LamOk X scope [(x, i)]) (hNX : X.N.Nodup) (hl : scope.names.lookup x = some .local) (hdef : defaultsOf params X.env = ([], []))
    (hbind : ∀ (q : Str) (cl : List (Str × Addr)) (pm cv ctv u : Value), bindArgs (PySem.W.kla_fn "<lambda>" q params body scope cl pm cv ctv) ⟨[u], []⟩ = pure [(x, u)])
    (hbody : ∀ (A : Around) (outer : List Env) (s : Shared) (H : Hp) (f' c' : Addr), Room k (A.deeper (LamX.lamEnv X scope s.heap.objs.size f' c')) → Ev (LamX.lamCx X A outer s H (fun _ _ _ => False) scope f' c') W0 body te fk)
    (na : starEach [e] X.env = (false, eval e X.env) :: starEach [] X.env := by rfl) :
    Ev X W (.Call (.Name "sorted" p) [e] [⟨some "key", .Lambda params body scope lpos, kpos⟩] pos) (tSortedK X.K false tr (fun _ => True) P nmf (X.env.qual ++ "<lambda>") lpos i te) (fSortedK false i f fk) := by
  refine ⟨pe_sortedK hc hr hg hm he.pe (mkSrc_static M.code M.tab) hnm L hNX hl hdef hbind (fun A outer s H f' c' r => (hbody A outer s H f' c' r).pe) na, ?_⟩
  have hr0 : Room k (X.A.deeper (LamX.lamEnv X scope X.s_0.heap.objs.size 0 0)) := hr.deeper _
  exact snd_sortedK M.mem M.uni hnm (fun _ _ _ _ _ _ _ => trivial) he.sd (hbody X.A [] X.s_0 (fun _ => none) 0 0 hr0).sd
end
end L3

namespace L3
open PySem PySem.Spec PyProof.Rows L2
variable [Md]
section
variable {P : Program} {w : World} {K : PySem.W.Frag} {mg : Str → Option Value} {base : Heap}
theorem okXc {x qual : Str} {st : Stmt} {f c : Addr} {fd : FuncData} {N ps : List Str} {k : Nat} {sp : Sp} (F : Fun K x qual st f fd) (hcd : fd.code = .ref c) (S : FnScope N ps (defScope st)) (len : ∀ vs H Q E, sp vs H Q E → vs.length = ps.length)
    (hbody : ∀ (A : Around) (outer : List Env) (s : Shared) (H : Hp) (vs : List V) (Q : VK) (E : XK), Room k (A.deeper (envOfC qual (defScope st) s.heap.objs.size f (.ref c))) → sp vs H Q E →
      ∃ t, PSs (cxOf (L2.CX P w) P w K mg base N qual (defScope st) f (.ref c) A outer s H E) (defBody st) t ∧ t { nx := fun _ H' => Q .non H', rt := Q } (start N vs) H) : FnOk P w K mg base (L2.CX P w) (k + 1) f fd ps sp := by
  obtain ⟨oc, od, kV, doc, pm, an, cdv, ct, osl, rfl, lk, hcd'⟩ := F.ex
  have e : cdv = .ref c := hcd
  subst e
  exact fn_of lk hcd' S len fun A outer s H vs Q E hr hsp => hbody A outer s H vs Q E hr hsp
end
section
variable [Tb] {P : Program} {w : World} {K : PySem.W.Frag} {mg : Str → Option Value} {base : Heap}
/-- a def that makes code objects keeps its promise -/
theorem fnDc {x qual : Str} {st : Stmt} {f c : Addr} {fd : FuncData} {N ps : List Str} {k : Nat} (ios : List Nat) (fb : M Fl) (Fu : Fun K x qual st f fd) (hcd : fd.code = .ref c) (S : FnScope N ps (defScope st))
    (hb : ∀ (A : Around) (outer : List Env) (s : Shared) (H : Hp) (E : XK), Room k (A.deeper (PyProof.Rows.envOfC qual (defScope st) s.heap.objs.size f (.ref c))) →
      ∃ t, ExB (cxOf (L2.CX P w) P w K mg base N qual (defScope st) f (.ref c) A outer s H E) (fun c d _ H' => E c d H') (defBody st) t fb) :
    FnOk P w K mg base (L2.CX P w) (k + 1) f fd ps (spD mg ios ps.length (mkG N.length ios fb)) := by
  have hN : ps.length ≤ N.length := by
    have := congrArg List.length S.pre
    rw [List.length_take] at this
    omega
  refine okXc Fu hcd S (fun vs H Q E ⟨_, _, _, _, _, h, _⟩ => h.1) fun A outer s H vs Q E hr ⟨F, Aa, ds, r, outs, hin, htb, hG, post⟩ => ?_
  obtain ⟨t, hx⟩ := hb A outer s H E hr
  refine ⟨t, hx.pe, ?_⟩
  have rel := spIn_rel hin htb hN
  have kept : ∀ O' H', Tr ((List.range N.length).map Aa) H O' H' → Kept Aa H H' := fun O' H' tr a o na e => (tr a o (fun z => by
    obtain ⟨j, _, e2⟩ := List.mem_map.mp z
    exact na j e2) e).1
  unfold mkG at hG
  split at hG
  · rename_i d ρ e
    obtain ⟨os, e1, e2⟩ := Option.map_eq_some_iff.mp hG
    cases e2
    exact hx.sd F Aa _ _ H _ _ _ _ rel e fun O' σ' H' v tr rel' rp => post H' v (kept O' H' tr) rel'.tabs (outsOf_ok rel' e1) rp
  · rename_i ρ e
    obtain ⟨os, e1, e2⟩ := Option.map_eq_some_iff.mp hG
    cases e2
    exact hx.sd F Aa _ _ H _ _ _ _ rel e fun O' σ' H' tr rel' => post H' .non (kept O' H' tr) rel'.tabs (outsOf_ok rel' e1) .non
  · rename_i xx ρ e
    obtain ⟨os, e1, e2⟩ := Option.map_eq_some_iff.mp hG
    cases e2
    refine hx.sd F Aa _ _ H _ _ _ _ rel e fun O' σ' H' cls dd tr rel' xr => post H' cls dd (kept O' H' tr) rel'.tabs (outsOf_ok rel' e1) ?_
    obtain ⟨h1, h2⟩ := xr
    refine ⟨h1, ?_⟩
    revert h2
    cases xx.2 with
    | none => exact id
    | some fd =>
      rintro ⟨q, v, e1, e2, e3⟩
      refine ⟨q, v, e1, e2, Rp.mono (fun a u n e _ => ⟨e, fun z => n ?_⟩) e3⟩
      rcases z with z | z | z
      · exact .inl z
      · cases z
      · exact .inr (.inr z)
  · cases hG
end
/-! ### the end of a law with several tables -/
/-- the def named nm: its code object's table is empty -/
def DefTab (K : PySem.W.Frag) (mg : Str → Option Value) (h : Heap) (nm : Str) : Prop := ∀ (a c P : Addr) (o : Obj) (fd : FuncData) (e : Value) (dd : Option Addr) (vs : Array Value) (sl : Array (Option Value)), mg nm = some (.ref a) → K.lookup a = some o → o.data = .func fd → fd.code = .ref c → K.lookup c = some ⟨e, dd, .fields vs, sl⟩ → vs[11]? = some (.ref P) →
  h.get? P = some { cls := .none, data := .fields #[] } ∧ PySem.W.CodeHd h c P
theorem walk_ofMany {l : PySem.W.OpenLaw} {n k : Nat} {q : Program} {loose : List Str} {XP : (Str → Option Value) → Heap → Prop} {YP : World → Heap → Prop} {d : DefRec} {K : Params → PySem.W.Frag} {CX : World → CXT} {x : Str} (names : List Str)
    (hn : l.most = some n) (hn2 : n ≤ sizeLine) (hdf : d.params.defaults = []) (hr : Room k callerA) (hrec : ∀ nm ∈ names, ((recsOf q).any fun e => e.name == nm) = true) (hY : ∀ (w : World) (h : Heap), YP w h → (K w.params).In h)
    (F : ∀ (w : World) (mg : Str → Option Value) (fa : Addr) (h : Heap), (K w.params).In h → h.Ns mainGlobals mg → mg d.name = some (.ref fa) → (∀ nm ∈ names, DefTab (K w.params) mg h nm) → LamX.LawAtS l w (K w.params) (CX w) k n x mg fa h)
    (hCX : ∀ (w : World) (H : Hp) (s : Shared) (e : Value) (s' : Shared), CX w [] H s (fun _ _ _ => False) e s' → False) :
    PySem.W.WalkO q loose XP YP l.row.toRowW d [] (fun f vs => PySem.call f vs) := by
  refine Att.attach_callB hn hdf fun w s₀ s₁ mg mb fa o pm cd doc a vs ns G Y ho hd hcd hmg hobj hints hlen hbits hg => ?_
  have KX := hY w _ Y
  have own : ∀ nm ∈ names, DefTab (K w.params) mg s₁.heap nm := fun nm hnm a c P o1 fd1 e dd vs1 sl k0 k1 k2 k3 k4 k5 => by
    obtain ⟨dL, hm, hn1⟩ := List.any_eq_true.mp (hrec nm hnm)
    have hn2 : dL.name = nm := beq_iff_eq.mp hn1
    obtain ⟨a', o', fd', c', P', h1, h2, h3, h4, h5, h6⟩ := G.T.tab dL hm
    rw [hn2, k0] at h1
    cases h1
    have g1 := KX _ _ k1
    rw [g1] at h2
    cases h2
    rw [k2] at h3
    cases h3
    rw [k3] at h4
    cases h4
    have h6' := h6
    obtain ⟨⟨oc, vc, e1, _, e3, e4⟩, hP⟩ := h6
    have g2 := KX _ _ k4
    rw [g2] at e1
    cases e1
    cases e3
    rw [k5] at e4
    cases e4
    exact ⟨hP, PySem.W.CodeHd.of h5 h6'⟩
  obtain ⟨fd, cs, sp, hT, nT, C, hb, hsp, hF⟩ := F w mg fa _ KX G.T.g hmg own
  exact LamX.law_callTs KX G.T.g G.T.b G.T.builtins G.T.nolimit hg hT nT C G.T.bmain hobj hints (Nat.le_trans hlen hn2) hr hF hb (fun H hH hS => hsp H a ns hlen hbits hH hS) fun H e s' => hCX w H s₁ e s'
end L3

namespace L3
open PySem PySem.Spec PyProof.Rows L2
/-! ### set comprehensions, whatever the set holds -/
abbrev esetO (w : World) : Obj := { cls := .type "set", dict := none, data := .set #[] 0 (.fresh 0 0 (!w.params.followText "set-order")) }
/-- a kind of sets: what is known of one (α), its members (β) -/
structure SetKd (P : Program) (w : World) (α β : Type) where
  R : Heap → Addr → α → Prop
  e : α
  add : α → β → α
  room : α → β → Prop
  V : β → L2.V
  at_ : ∀ (h h' : Heap) (a : Addr) (x : α), R h a x → (∀ o, h.get? a = some o → h'.get? a = some o) → R h' a x
  there : ∀ (h : Heap) (a : Addr) (x : α), R h a x → ∃ o, h.get? a = some o ∧ ∀ v, o.data ≠ .cell v
  fresh : ∀ (h : Heap), R (h.push (esetO w)) h.objs.size e
  put : ∀ (A : Around) (s : Shared) (D : Addr) (x : α) (y : β) (v : Value) (Q E : Value → Shared → Prop), R s.heap D x → room x y → RelV (V y) v →
    (∀ h', Heap.SameBut D s.heap h' → R h' D (add x y) → Q .none { s with heap := h', toks := s.toks + 1 }) → wpAny (model P w) A (call (.builtin "set.add") [.ref D, v]) Q E s
abbrev addS {β : Type} [DecidableEq β] (x : (β → Bool) × Nat) (k : β) : (β → Bool) × Nat := (fun j => x.1 j || decide (j = k), if x.1 k = true then x.2 else x.2 + 1)
/-- sets of ints -/
def intSet (P : Program) (w : World) : SetKd P w ((Int → Bool) × Nat) Int where
  R h a x := SetR w h a x.1 x.2
  e := (fun _ => false, 0)
  add := addS
  room x _ := x.2 + 1 < scanBound
  V k := .int k
  at_ h h' a x r k := SetR.at r k
  there h a x r := by
    obtain ⟨o, es, ep, t, ho, _, hd, _⟩ := r
    exact ⟨o, ho, fun v z => by rw [hd] at z; cases z⟩
  fresh h := setR_fresh w
  put A s D x y v Q E R hr rv h := by
    obtain ⟨t, rfl⟩ := rv
    exact setR_add R hr fun h' sb new => h h' sb new
/-- sets of ints and texts -/
def keySet (P : Program) (w : World) : SetKd P w ((Key → Bool) × Nat) Key where
  R h a x := h.SetOf (mixKind P w) a x.1 x.2
  e := (fun _ => false, 0)
  add := addS
  room x _ := x.2 + 1 < scanBound
  V k := kV k
  at_ h h' a x r k := setOf_at r k
  there h a x r := by
    obtain ⟨o, es, ep, t, ho, _, hd, _⟩ := r
    exact ⟨o, ho, fun v z => by rw [hd] at z; cases z⟩
  fresh h := ⟨_, #[], 0, _, Heap.get?_push_size _ rfl, ⟨rfl, rfl, rfl⟩, rfl, (fun e he => by simp at he), (fun k => by simp), (by decide), (by rfl), rfl⟩
  put A s D x y v Q E R hr rv h := call_set_add (kV_is rv) (key_scan rv) R hr fun h' sb new => h h' sb new
section
variable {X : Cx} {α β : Type}
def tScP (S : SetKd X.prog X.w α β) (wi : TI) (g : TG) (tt : TT) (te : TE) (vs : List Nat) : L2.St → Hp → (α → Hp → Prop) → Prop := fun σ H Q => wi σ H fun J H1 => ∃ W : Nat → Nat → α → Hp → Prop, (∃ m, W 0 m S.e H1) ∧ ∀ i m x H, W i m x H →
  (J.stop i H ∧ Q x H) ∨ (J.go i H ∧ ∃ Nx : α → Hp → Prop, (∀ x' H', Nx x' H' → ∃ m', m' < m ∧ W (i + 1) m' x' H') ∧ ∀ v H', J.yld i H v H' → g v (wipe σ vs) H' fun σ2 H2 => wipe σ2 vs = wipe σ vs ∧ tt σ2 H2 fun b H3 =>
    if b = true then te σ2 H3 fun y H4 => ∃ k : β, y = S.V k ∧ S.room x k ∧ Nx (S.add x k) H4 else Nx x H3)
/-- an expression that makes a new set -/
def PSet (X : Cx) {α β : Type} (S : SetKd X.prog X.w α β) (e : Expr) (t : L2.St → Hp → (α → Hp → Prop) → Prop) : Prop :=
  ∀ (pins : List (Addr × Obj)) (s : Shared) (σ : L2.St) (H : Hp) (Q : α → Hp → Prop), Inv X pins σ H s → t σ H Q →
    wpAny (model X.prog X.w) X.A (eval e X.env) (fun u s' => ∃ D o x H', u = .ref D ∧ Inv X ((D, o) :: pins) σ H' s' ∧ X.s_0.heap.objs.size ≤ D ∧ S.R s'.heap D x ∧ Q x H') X.xe s
theorem ps_sc {S : SetKd X.prog X.w α β} {elt tg iter : Expr} {ifs : List Expr} {scope : Scope} {own : List (Str × Nat)} {pos : Pos} {wi : TI} {g : TG} {tt : TT} {te : TE} (hc : X.calm = true) (hN : X.N.Nodup) (hi : PI X tg iter wi) (ok : BlkOk X.N X.env.scope scope own)
    (hg : ∀ (s : Shared) (H : Hp) (C : Addr) (cl : List (Str × Addr)) (fp : List Addr), PG (X.blk s H scope (compEnvC scope cl C X.env) fp) tg g) (ht : ∀ (s : Shared) (H : Hp) (C : Addr) (cl : List (Str × Addr)) (fp : List Addr), PTs (X.blk s H scope (compEnvC scope cl C X.env) fp) ifs tt)
    (he : ∀ (s : Shared) (H : Hp) (C : Addr) (cl : List (Str × Addr)) (fp : List Addr), PE (X.blk s H scope (compEnvC scope cl C X.env) fp) elt te) (hs : ∀ x, foldedSetIterable iter X.env x = pure x := by intro _; rfl) :
    PSet X S (.SetComp elt [⟨tg, iter, ifs, 0⟩] scope pos) (tScP S wi g tt te (own.map (·.2))) := by
  intro pins s σ H Q I h
  have hfree : ∀ y ∈ scope.names, y.2 = .free → ∃ c, X.env.cells.lookup y.1 = some c := fun y hy e => (ok.free y hy e).elim (fun k => I.ok.has _ (.inl k)) fun k => I.ok.has _ (.inr k)
  rw [PpSet.eval_SetComp]
  refine wpAny_comprehension_free (use := none) rfl hs (closure_ok hfree) ok.kind (fun y hy e => by rw [ok.uniq y hy, e]) (thn (hi.run pins s σ H _ I h) fun xv s1 hx => thn hx fun itv s2 h2 => ?_)
  obtain ⟨it, fp, tn, J, H2, e, I2, T, st2, f2, W, ⟨m0, w0⟩, turn⟩ := h2
  subst e
  refine PpSet.newSet_ok (newEnv_comp ?_)
  have hDn : H2 s2.heap.objs.size = none := I2.hok.fresh (Nat.le_refl _)
  have I3 : Inv X pins σ H2 { s2 with heap := s2.heap.push (esetO X.w) } := I2.kept (t' := s2.toks) fun b o e => Heap.get?_push_of_some _ e
  have fD := I2.fpOk (Nat.le_refl _) hDn
  have hDs : X.s_0.heap.objs.size ≤ s2.heap.objs.size := I2.sz
  have r3 := S.fresh s2.heap
  have sz : ∀ b ∈ fp, b < s2.heap.objs.size := fun b hb => let ⟨o, e, _⟩ := T.obj _ _ st2 b hb; Heap.lt_size e
  have hDl : s2.heap.objs.size < (s2.heap.push (esetO X.w)).objs.size := by rw [Heap.size_push]; exact Nat.lt_succ_self _
  have hDg : (s2.heap.push (esetO X.w)).get? s2.heap.objs.size = some (esetO X.w) := Heap.get?_push_size _ rfl
  have f3 : ∀ b ∈ s2.heap.objs.size :: fp, FpOk X pins H2 b ∧ b < (s2.heap.push (esetO X.w)).objs.size := fun b hb => by
    rcases List.mem_cons.mp hb with rfl | hb
    · exact ⟨fD, hDl⟩
    · exact ⟨f2 b hb, Nat.lt_trans (sz b hb) hDl⟩
  have st3 : tn 0 (s2.heap.push (esetO X.w)) := T.keep _ _ _ st2 fun b _ o e => Heap.get?_push_of_some _ e
  have neD : ∀ b ∈ fp, b ≠ s2.heap.objs.size := fun b hb => Nat.ne_of_lt (sz b hb)
  generalize hD : s2.heap.objs.size = D at *
  generalize hs3 : ({ s2 with heap := s2.heap.push (esetO X.w) } : Shared) = s3 at I3
  have h3 : s3.heap = s2.heap.push (esetO X.w) := by rw [← hs3]
  rw [← h3] at f3 st3 r3 hDl hDg
  have I4 := block_start I3 ok hN f3
  have pg := hg s3 H2 s3.heap.objs.size (cellsFrom (s3.heap.objs.size + 1) scope.names (cloFrom X.env.cells scope.names [])) (D :: fp)
  have pt := ht s3 H2 s3.heap.objs.size (cellsFrom (s3.heap.objs.size + 1) scope.names (cloFrom X.env.cells scope.names [])) (D :: fp)
  have pe := he s3 H2 s3.heap.objs.size (cellsFrom (s3.heap.objs.size + 1) scope.names (cloFrom X.env.cells scope.names [])) (D :: fp)
  show codeAny _ _ (.compStart (.SetComp elt [⟨tg, iter, ifs, 0⟩] scope pos) 0 (.ref it) (.ref D) (compEnvC scope (cellsFrom (s3.heap.objs.size + 1) scope.names (cloFrom X.env.cells scope.names [])) s3.heap.objs.size X.env)) (compPost (model X.prog X.w) X.A X.xe none _ (.ref D) s3.heap.objs.size) { s3 with heap := pushCells (s3.heap.push { cls := .type "dict", data := .dict #[] }) scope.names }
  generalize hce : compEnvC scope (cellsFrom (s3.heap.objs.size + 1) scope.names (cloFrom X.env.cells scope.names [])) s3.heap.objs.size X.env = ce at I4 pg pt pe ⊢
  have cL : ce.locals = s3.heap.objs.size := by subst hce; rfl
  generalize hs4 : ({ s3 with heap := pushCells (s3.heap.push { cls := .type "dict", data := .dict #[] }) scope.names } : Shared) = s4 at I4 ⊢
  have k4 : ∀ b o, s3.heap.get? b = some o → s4.heap.get? b = some o := fun b o e => by rw [← hs4]; exact pushCells_keeps _ _ _ _ (Heap.get?_push_of_some _ e)
  have st4 : tn 0 s4.heap := T.keep _ _ _ st3 fun b _ o e => k4 b o e
  -- the set's own object, through the block
  have dPin : ∀ {H' : Hp} {s' : Shared} {o : Obj}, s'.heap.get? D = some o → H' D = none → (∀ v, o.data ≠ .cell v) → s'.heap.get? (D, o).1 = some (D, o).2 ∧ H' (D, o).1 = none ∧ (D, o).1 ≠ (X.blk s3 H2 scope ce (D :: fp)).env.locals ∧ (D, o).1 ∉ (X.blk s3 H2 scope ce (D :: fp)).fs ∧ ∀ v, (D, o).2.data ≠ .cell v := fun {H' s' o} e n nc => by
    refine ⟨e, n, ?_, ?_, nc⟩
    · show D ≠ ce.locals
      rw [cL]; exact Nat.ne_of_lt hDl
    · exact I4.ok.exfs D List.mem_cons_self
  have I4' : Inv (X.blk s3 H2 scope ce (D :: fp)) [(D, esetO X.w)] (wipe σ (own.map (·.2))) H2 s4 := I4.pins_of fun p hp => by
    rw [List.mem_singleton.mp hp]
    exact dPin (k4 _ _ hDg) hDn fun v z => by cases z
  have r4 : S.R s4.heap D S.e := S.at_ _ _ _ _ r3 fun o e => k4 D o e
  have stat : ∀ {σ' : L2.St} {H' : Hp} {s' : Shared} {o : Obj}, Inv (X.blk s3 H2 scope ce (D :: fp)) [(D, o)] σ' H' s' → (∀ b ∈ fp, H' b = none) → ∀ b ∈ fp, FpOk (X.blk s3 H2 scope ce (D :: fp)) [(D, o)] H' b := fun {σ' H' s' o} I' hn b hb =>
    ⟨hn b hb, (I'.ok.exf b (List.mem_cons_of_mem _ hb)).1, I'.ok.exfs b (List.mem_cons_of_mem _ hb), .inl (List.mem_cons_of_mem _ hb), fun x c e => (I'.ok.exf b (List.mem_cons_of_mem _ hb)).2 x c e, fun p hp => by
      have hp' : p ∈ ([] : List (Addr × Obj)) ++ [(D, o)] := hp
      rw [List.nil_append] at hp'
      rw [List.mem_singleton.mp hp']
      exact (neD b hb).symm⟩
  have loop : codeAny (model X.prog X.w) X.A (.compLoop (.SetComp elt [⟨tg, iter, ifs, 0⟩] scope pos) 0 (.ref it) (.ref D) ce) (compPost (model X.prog X.w) X.A X.xe none (fun u s' => ∃ D o x H', u = .ref D ∧ Inv X ((D, o) :: pins) σ H' s' ∧ X.s_0.heap.objs.size ≤ D ∧ S.R s'.heap D x ∧ Q x H') (.ref D) s3.heap.objs.size) s4 := by
    refine PpSet.compLoopS_any (fun n s' => ∃ i H' o x, Inv (X.blk s3 H2 scope ce (D :: fp)) [(D, o)] (wipe σ (own.map (·.2))) H' s' ∧ tn i s'.heap ∧ (∀ b ∈ fp, H' b = none) ∧ S.R s'.heap D x ∧ W i n x H') ?_ m0 ⟨0, H2, _, S.e, I4', st4, fun b hb => (f2 b hb).1, r4, w0⟩
    rintro n s5 ⟨i, H5, o5, x5, I5, st5, n5, r5, w5⟩
    rcases turn i n x5 H5 w5 with ⟨stop, qq⟩ | ⟨go, Nx, hNx, step⟩
    · refine thnF (T.done (X.blk s3 H2 scope ce (D :: fp)) rfl rfl rfl hc i [(D, o5)] s5 _ H5 (fun _ _ => False) I5 (stat I5 n5) st5 stop) fun r s6 ⟨hr, I6⟩ => ?_
      subst hr
      have p5 := I5.pin (D, o5) (List.mem_append_right _ List.mem_cons_self)
      have p6 := I6.pin (D, o5) (List.mem_append_right _ List.mem_cons_self)
      have r6 : S.R s6.heap D x5 := S.at_ _ _ _ _ r5 fun o e => by
        rw [p5.1] at e; cases e
        exact p6.1
      have I7 : Inv X pins σ H5 s6 := I3.call' (ch := D :: fp) I6.os I6.base I6.hok I6.bare fun b hb => ⟨(f3 b hb).1.2.2.2.1, (f3 b hb).1.2.1, (f3 b hb).1.2.2.2.2.1, (f3 b hb).1.2.2.2.2.2⟩
      have nC : H5 s3.heap.objs.size = none := by
        have z : H5 ce.locals = none := I6.free
        rwa [cL] at z
      obtain ⟨m, hn, _⟩ := I6.loc
      have hn : s6.heap.Ns ce.locals m := hn
      rw [cL] at hn
      obtain ⟨g0, g1, g2, g3, g4, g5⟩ := I3.fpOk (Nat.le_refl _) nC
      obtain ⟨d0, d1, d2, d3, d4, d5⟩ := fD
      have hDC : D ≠ s3.heap.objs.size := Nat.ne_of_lt hDl
      refine ⟨m, hn, fun h'' sb => ⟨D, o5, x5, H5, rfl, ?_, hDs, S.at_ _ _ _ _ r6 fun o e => (sb.2 D hDC).trans e, qq⟩⟩
      have I8 : Inv X pins σ H5 { s6 with heap := h'', toks := s6.toks } := I7.turned (t' := s6.toks) (fun b o hb e => (sb.2 b hb).trans e) g0 g1 g3 g4 g5
      refine I8.pins_of fun p hp => ?_
      rcases List.mem_cons.mp hp with rfl | hp
      · exact ⟨(sb.2 D hDC).trans p6.1, p6.2.1, d1, d2, p6.2.2.2.2⟩
      · exact I8.pin p (List.mem_append_right _ hp)
    · refine thnF (T.item (X.blk s3 H2 scope ce (D :: fp)) rfl rfl rfl hc i [(D, o5)] s5 _ H5 (fun _ _ => False) I5 (stat I5 n5) st5 go) fun r s6 ⟨u, hr, h6⟩ => ?_
      subst hr
      refine thnF h6 fun _ s7 ⟨x, H7, I7, r7, y7, st7, n7⟩ => ?_
      have I7' := I7.pinned (stat I7 n7) (T.obj _ _ st7)
      refine thnF (pg.run _ s7 _ H7 x u _ I7' r7 (step x H7 y7)) fun _ s8 ⟨σ8, H8, I8, hw8, q8⟩ => ?_
      refine thnF (pt.run _ s8 σ8 H8 _ I8 q8) fun b s9 ⟨H9, I9, q9⟩ => ?_
      have rAt : ∀ {s' : Shared} {H' : Hp} {o : Obj} {pl : List (Addr × Obj)} {σ' : L2.St}, Inv (X.blk s3 H2 scope ce (D :: fp)) ((D, o5) :: pl) σ' H' s' → S.R s'.heap D x5 := fun {s' H' o pl σ'} I' => by
        have p5 := I5.pin (D, o5) (List.mem_append_right _ List.mem_cons_self)
        have p' := I'.pin (D, o5) (List.mem_append_right _ List.mem_cons_self)
        exact S.at_ _ _ _ _ r5 fun o e => by
          rw [p5.1] at e; cases e
          exact p'.1
      have fin : ∀ {s' : Shared} {H' : Hp} {o' : Obj} {x' : α}, Inv (X.blk s3 H2 scope ce (D :: fp)) ((D, o') :: pinsAt fp s7.heap) σ8 H' s' → S.R s'.heap D x' → Nx x' H' → ∃ m, m < n ∧ ∃ i H' o x, Inv (X.blk s3 H2 scope ce (D :: fp)) [(D, o)] (wipe σ (own.map (·.2))) H' s' ∧ tn i s'.heap ∧ (∀ b ∈ fp, H' b = none) ∧ S.R s'.heap D x ∧ W i m x H' := fun {s' H' o' x'} I' r' nx => by
        obtain ⟨m', hm, w'⟩ := hNx x' H' nx
        have pin' : ∀ b ∈ fp, ∀ o, s7.heap.get? b = some o → s'.heap.get? b = some o ∧ H' b = none := fun b hb o e =>
          let z := I'.pin (b, o) (List.mem_append_right _ (List.mem_cons_of_mem _ (mem_pinsAt hb e)))
          ⟨z.1, z.2.1⟩
        refine ⟨m', hm, i + 1, H', o', x', (I'.pins_of fun p hp => I'.pin p (List.mem_append_right _ (by rw [List.mem_singleton.mp hp]; exact List.mem_cons_self))).weak (by rw [← hw8, wipe_length]) (fun j v e => ?_), T.keep _ _ _ st7 fun b hb o e => (pin' b hb o e).1, fun b hb => ?_, r', w'⟩
        · rw [← hw8] at e
          exact (wipe_some e).1
        · obtain ⟨o, e, _⟩ := T.obj _ _ st7 b hb
          exact (pin' b hb o e).2
      cases b with
      | false =>
        simp only [Bool.false_eq_true, if_false] at q9 ⊢
        exact fin I9 (rAt (o := o5) I9) q9
      | true =>
        simp only [if_true] at q9 ⊢
        refine thnF (pe.run _ s9 σ8 H9 _ I9 q9) fun z s10 ⟨yv, H10, I10, r10, k, ey, hz10, nx⟩ => ?_
        subst ey
        refine S.put _ _ _ _ _ _ _ _ (rAt (o := o5) I10) hz10 r10 fun h' sb new => ?_
        have p10 := I10.pin (D, o5) (List.mem_append_right _ List.mem_cons_self)
        obtain ⟨o6, ho6, nc6⟩ := S.there _ _ _ new
        have I11 : Inv (X.blk s3 H2 scope ce (D :: fp)) (pinsAt fp s7.heap) σ8 H10 s10 := I10.pins_of fun p hp => I10.pin p (List.mem_append_right _ (List.mem_cons_of_mem _ hp))
        have I12 : Inv (X.blk s3 H2 scope ce (D :: fp)) (pinsAt fp s7.heap) σ8 H10 { s10 with heap := h', toks := s10.toks + 1 } := I11.turned (it := D) (fun b o hb e => (sb.2 b hb).trans e) p10.2.1 p10.2.2.1 (.inl List.mem_cons_self) (fun x c e => (I11.ok.exf D List.mem_cons_self).2 x c e) fun p hp => by
          have hp' : p ∈ ([] : List (Addr × Obj)) ++ pinsAt fp s7.heap := hp
          rw [List.nil_append] at hp'
          exact neD _ (of_pinsAt hp').1
        exact fin (o' := o6) (I12.pins_of fun p hp => by
          rcases List.mem_cons.mp hp with rfl | hp
          · exact ⟨ho6, p10.2.1, p10.2.2.1, p10.2.2.2.1, nc6⟩
          · exact I12.pin p (List.mem_append_right _ hp)) new nx
  exact PpSet.codeAny_compStart_set loop (T.self X.A 0 _ _ _ st4 loop)
end
end L3

namespace L3
open PySem PySem.Spec PyProof.Rows L2
/-! ### sorted(set), len(set) of a new set -/
section
variable {X : Cx} {e : Expr} {p pos : Pos}
def tSortedSc (t : L2.St → Hp → ((Int → Bool) × Nat → Hp → Prop) → Prop) : TE := fun σ H Q => t σ H fun x H1 => x.2 < 64 ∧ ∀ (ns : List Int) (p : Addr), ns.Pairwise (· < ·) → (∀ k : Int, k ∈ ns ↔ x.1 k = true) → ns.length = x.2 → H1 p = none → Q (.ref p) (upd H1 p (.lst (ns.map V.int)))
theorem bt_sortedS : bootBuiltins "sorted" = some (.builtin "sorted") := by decide +kernel
theorem bt_lenS : bootBuiltins "len" = some (.builtin "len") := by decide +kernel
theorem pe_sortedSc {t : L2.St → Hp → ((Int → Bool) × Nat → Hp → Prop) → Prop} (hc : X.calm = true) (hg : Gl X "sorted") (hm : X.mg "sorted" = none) (h : PSet X (intSet X.prog X.w) e t)
    (he : starEach [e] X.env = (false, eval e X.env) :: starEach [] X.env := by rfl) : PE X (.Call (.Name "sorted" p) [e] [] pos) (tSortedSc t) := by
  refine ⟨fun pins s σ H Q I hq => ?_⟩
  refine wpAny_Call_Name_kw (ld_blt I hg hm bt_sortedS ?_)
  refine PyProof.Rows.callWith_builtin1 ?_ he (by rfl)
  rw [he]
  show wpAny _ _ (spliced ((false, eval e X.env) :: backTo pos (starEach [] X.env))) _ _ s
  refine Calls.spliced_cons (thn (h pins s σ H _ I hq) fun u s1 ⟨D, o, x, H1, eu, I1, hD, R, h64, q⟩ => ?_)
  subst eu
  refine Calls.spliced_nil ?_
  have R' : SetR X.w s1.heap D x.1 x.2 := R
  refine sorted_set R' (I1.ok.hd hc) h64 fun s' p' out c ns k g o hp hg hi hs hm hl => ?_
  have hlen : (ns.map V.int).length ≤ sizeLine := by rw [List.length_map, hl, sizeLine_eq]; omega
  have hn : H1 p' = none := I1.hok.fresh hp
  have I2 : Inv X pins σ H1 s1 := I1.pins_of fun p hp => I1.pin p (List.mem_append_right _ (List.mem_cons_of_mem _ hp))
  have J : Inv X pins σ (upd H1 p' (.lst (ns.map V.int))) { s1 with heap := s'.heap, gens := s'.gens, drawn := s'.drawn, toks := s'.toks } :=
    I2.call (ch := []) (Un.laid k hp hn) (I2.hok.laid k hp ⟨hlen, out.toList, c, vals_of_ints hi, hg⟩) (by rw [g]; exact I2.bare) (fun _ z => nomatch z)
  have e : s' = { s1 with heap := s'.heap, gens := s'.gens, drawn := s'.drawn, toks := s'.toks } := by
    cases s'
    cases s1
    cases o
    rfl
  rw [e]
  exact ⟨.ref p', _, J, rfl, q ns p' hs hm hl hn⟩
def tLenSc {α : Type} (t : L2.St → Hp → (α × Nat → Hp → Prop) → Prop) : TE := fun σ H Q => t σ H fun x H1 => x.2 < 4096 ∧ Q (.int x.2) H1
theorem pe_lenSc {t : L2.St → Hp → ((Key → Bool) × Nat → Hp → Prop) → Prop} (hg : Gl X "len") (hm : X.mg "len" = none) (h : PSet X (keySet X.prog X.w) e t)
    (he : starEach [e] X.env = (false, eval e X.env) :: starEach [] X.env := by rfl) : PE X (.Call (.Name "len" p) [e] [] pos) (tLenSc t) := by
  refine ⟨fun pins s σ H Q I hq => ?_⟩
  refine wpAny_Call_Name_kw (ld_blt I hg hm bt_lenS ?_)
  refine PyProof.Rows.callWith_builtin1 ?_ he (by rfl)
  rw [he]
  show wpAny _ _ (spliced ((false, eval e X.env) :: backTo pos (starEach [] X.env))) _ _ s
  refine Calls.spliced_cons (thn (h pins s σ H _ I hq) fun u s1 ⟨D, o, x, H1, eu, I1, hD, R, h64, q⟩ => ?_)
  subst eu
  refine Calls.spliced_nil ?_
  obtain ⟨o, es, ep, t, ho, hex, hd, _, _, _, hf, hn⟩ := (show s1.heap.SetOf (mixKind X.prog X.w) D x.1 x.2 from R)
  have I2 : Inv X pins σ H1 s1 := I1.pins_of fun p hp => I1.pin p (List.mem_append_right _ (List.mem_cons_of_mem _ hp))
  refine call_len_set ho hex hd hf (by rw [hn]; have : (4096 : Nat) ≤ sizeLine := by decide
                                       omega) ⟨.int x.2, H1, I2.tok _, ⟨_, by rw [hn]⟩, q⟩
end
end L3

namespace L3
open PySem L2
variable [Md] [Tb]
/-! ### set comprehensions, on data -/
section
variable {X : Cx} {W : WX} {mg : Str → Option Value} {β : Type} [DecidableEq β]
def insS (acc : List β) (k : β) : List β := if k ∈ acc then acc else acc ++ [k]
def scLoop (conv : D → Option β) (vs : List Nat) (fg : D → DEnv → Option DEnv) (ft : M Bool) (fe : M R) : List D → List β → DEnv → Option (List β × DEnv)
  | [], acc, ρ => some (acc, ρ)
  | d :: ds, acc, ρ => match fg d (wipeD ρ vs) with
    | none => none
    | some ρ1 => match ft ρ1 with
      | some (.ok true, ρ2) => match fe ρ2 with
        | some (.ok r, ρ3) => match (deref ρ3 r).bind conv with
          | some k => if acc.length < 2000 then scLoop conv vs fg ft fe ds (insS acc k) ρ3 else none
          | none => none
        | _ => none
      | some (.ok false, ρ2) => scLoop conv vs fg ft fe ds acc ρ2
      | _ => none
def fSc (conv : D → Option β) (fi : M (List D)) (vs : List Nat) (fg : D → DEnv → Option DEnv) (ft : M Bool) (fe : M R) : M (List β) := fi.bind fun ds ρ0 => if vs.all (noOwn ρ0) = true then match scLoop conv vs fg ft fe ds [] ρ0 with
  | some (acc, ρ1) => some (.ok acc, putBack ρ0 ρ1 vs)
  | none => none else none
structure SRep (acc : List β) (x : (β → Bool) × Nat) : Prop where
  nd : acc.Nodup
  len : x.2 = acc.length
  mem : ∀ k, x.1 k = decide (k ∈ acc)
theorem SRep.add {acc : List β} {x : (β → Bool) × Nat} (h : SRep acc x) (k : β) : SRep (insS acc k) (addS x k) := by
  by_cases hk : k ∈ acc
  · have e : insS acc k = acc := if_pos hk
    have e2 : x.1 k = true := by rw [h.mem]; exact decide_eq_true hk
    rw [e]
    refine ⟨h.nd, by show (if x.1 k = true then x.2 else x.2 + 1) = _; rw [if_pos e2]; exact h.len, fun j => ?_⟩
    show (x.1 j || decide (j = k)) = _
    rw [h.mem]
    by_cases hj : j = k
    · subst hj; simp [hk]
    · simp [hj]
  · have e : insS acc k = acc ++ [k] := if_neg hk
    have e2 : ¬ x.1 k = true := by rw [h.mem]; simpa using hk
    rw [e]
    refine ⟨?_, by show (if x.1 k = true then x.2 else x.2 + 1) = _; rw [if_neg e2, h.len]; simp, fun j => ?_⟩
    · rw [List.nodup_append]
      exact ⟨h.nd, by simp, fun a ha b hb => by rw [List.mem_singleton] at hb; subst hb; rintro rfl; exact hk ha⟩
    · show (x.1 j || decide (j = k)) = _
      rw [h.mem]
      simp
/-- what a set's kind says of the data -/
structure SetDt {P : Program} {w : World} (S : SetKd P w ((β → Bool) × Nat) β) (conv : D → Option β) : Prop where
  e : S.e = (fun _ => false, 0)
  add : S.add = addS
  room : ∀ x k, x.2 + 1 < scanBound → S.room x k
  conv : ∀ (B : Addr → Prop) H v d k, Rb B H v d → conv d = some k → v = S.V k
def intC : D → Option Int
  | .int i => some i
  | _ => none
theorem setDt_int {P : Program} {w : World} : SetDt (intSet P w) intC := ⟨rfl, rfl, fun _ _ h => h, fun B H v d k r e => by
  cases d with
  | int i => cases e; exact r.int
  | _ => cases e⟩
theorem setDt_key {P : Program} {w : World} : SetDt (keySet P w) keyD := ⟨rfl, rfl, fun _ _ h => h, fun B H v d k r e => r.key e⟩
structure EvS (X : Cx) (W : WX) (S : SetKd X.prog X.w ((β → Bool) × Nat) β) (e : Expr) (t : L2.St → Hp → ((β → Bool) × Nat → Hp → Prop) → Prop) (f : M (List β)) : Prop where
  pe : PSet X S e t
  sd : ∀ F A O σ H ρ r ρ' (Q : (β → Bool) × Nat → Hp → Prop), Rel F A O σ H ρ → f ρ = some (r, ρ') → (match r with
    | .ok acc => ∀ H' x, Tr O H O H' → Rel F A O σ H' ρ' → SRep acc x → Q x H'
    | .error x => XPost X.mg W F A O σ H ρ' x) → t σ H Q
theorem snd_sc {P : Program} {w : World} {S : SetKd P w ((β → Bool) × Nat) β} {conv : D → Option β} (sd : SetDt S conv) {wi : TI} {g : TG} {tt : TT} {te : TE} {vs is : List Nat} {fi : M (List D)} {fg : D → DEnv → Option DEnv} {ft : M Bool} {fe : M R}
    (hi : ∀ F A O σ H ρ r ρ' (Q : It → Hp → Prop), Rel F A O σ H ρ → fi ρ = some (r, ρ') → (match r with
      | .ok ds => ∀ H' J, Tr O H O H' → Rel F A O σ H' ρ' → Walk (Bad F A O) H' J ds → Q J H'
      | .error x => XPost mg W F A O σ H ρ' x) → wi σ H Q)
    (hg : SndG is g fg) (his : ∀ i ∈ is, i ∈ vs) (ht : SndT mg W0 tt ft) (he : Snd mg W0 te fe) {F : Addr → Prop} {A : Nat → Option Addr} {O : List (Option Addr)} {σ : L2.St} {H : Hp} {ρ : DEnv} {r : Except Exc (List β)} {ρ' : DEnv} {Q : (β → Bool) × Nat → Hp → Prop}
    (rel : Rel F A O σ H ρ) (hf : fSc conv fi vs fg ft fe ρ = some (r, ρ')) (post : match r with
    | .ok acc => ∀ H' x, Tr O H O H' → Rel F A O σ H' ρ' → SRep acc x → Q x H'
    | .error x => XPost mg W F A O σ H ρ' x) : (wi σ H fun J H1 => ∃ W : Nat → Nat → (β → Bool) × Nat → Hp → Prop, (∃ m, W 0 m S.e H1) ∧ ∀ i m x H, W i m x H →
  (J.stop i H ∧ Q x H) ∨ (J.go i H ∧ ∃ Nx : (β → Bool) × Nat → Hp → Prop, (∀ x' H', Nx x' H' → ∃ m', m' < m ∧ W (i + 1) m' x' H') ∧ ∀ v H', J.yld i H v H' → g v (wipe σ vs) H' fun σ2 H2 => wipe σ2 vs = wipe σ vs ∧ tt σ2 H2 fun b H3 =>
    if b = true then te σ2 H3 fun y H4 => ∃ k : β, y = S.V k ∧ S.room x k ∧ Nx (S.add x k) H4 else Nx x H3)) := by
  unfold fSc M.bind at hf
  split at hf
  · rename_i ds ρ0 q
    refine hi F A O σ H ρ _ _ _ rel q fun H1 J t1 rel1 wk => ?_
    simp only at hf
    split at hf
    · rename_i nown
      split at hf
      · rename_i accF ρF hl
        cases hf
        have no : ∀ v ∈ vs, ∀ d, ρ0[v]? ≠ some (some (.ow d)) ∧ ρ0[v]? ≠ some (some (.io d)) := fun v hv d => by
          have z := List.all_eq_true.mp nown v hv
          unfold noOwn at z
          refine ⟨fun e => ?_, fun e => ?_⟩
          · rw [e] at z; cases z
          · rw [e] at z; cases z
        refine ⟨fun i m x H => m = ds.length - i ∧ i ≤ ds.length ∧ ∃ acc ρ2, Tr O H1 O H ∧ Rel F A O (L2.wipe σ vs) H (wipeD ρ2 vs) ∧ SRep acc x ∧ scLoop conv vs fg ft fe (ds.drop i) acc ρ2 = some (accF, ρF),
          ⟨ds.length, by simp, by simp, [], ρ0, Tr.refl, Rel.wipe rel1 rfl (fun _ _ => rfl), by rw [sd.e]; exact ⟨by simp, rfl, fun k => by simp⟩, by simpa using hl⟩, ?_⟩
        rintro i m x H ⟨hm, hi2, acc, ρ2, tr2, rl2, sr, hl2⟩
        have wk2 := wk (Bad F A O) H (fun a o n e ht => ⟨tr2.at (fun z => n (.inr (.inl z))) e ht, n⟩) (fun _ n => rl2.good n) i
        split at wk2
        · rename_i d ed
          obtain ⟨hlt, hde⟩ := List.getElem?_eq_some_iff.mp ed
          have hd : ds.drop i = d :: ds.drop (i + 1) := by rw [List.drop_eq_getElem_cons hlt, hde]
          rw [hd] at hl2
          unfold scLoop at hl2
          obtain ⟨hgo, hy⟩ := wk2
          refine .inr ⟨hgo, fun x' H3 => ∃ acc ρ2, Tr O H1 O H3 ∧ Rel F A O (L2.wipe σ vs) H3 (wipeD ρ2 vs) ∧ SRep acc x' ∧ scLoop conv vs fg ft fe (ds.drop (i + 1)) acc ρ2 = some (accF, ρF), fun x' H3 h => ⟨ds.length - (i + 1), by omega, rfl, by omega, h⟩, fun v H' hx => ?_⟩
          obtain ⟨sm, rp⟩ := hy v H' hx
          split at hl2
          · cases hl2
          · rename_i ρ3 e3
            refine hg F A O (L2.wipe σ vs) H' (wipeD ρ2 vs) v d ρ3 _ (Rel.grow rl2 sm) rp e3 fun σ4 rel4 ln ag => ?_
            have hlen : σ4.length = σ.length := by rw [ln, wipe_length]
            have agv : ∀ j, j ∉ vs → σ4[j]? = σ[j]? := fun j hj => by
              rw [ag j (fun z => hj (his j z)), wipe_out hj]
            refine ⟨wipe_ext hlen agv, ?_⟩
            split at hl2
            · rename_i ρ4 e4
              refine ht F A O σ4 H' ρ3 _ _ _ rel4 e4 fun H3 t3 rel5 => ?_
              rw [if_pos rfl]
              split at hl2
              · rename_i rr ρ5 e5
                split at hl2
                · rename_i k ek
                  split at hl2
                  · rename_i hsz
                    refine he F A O σ4 H3 ρ4 _ _ _ rel5 e5 (PostE.use fun H4 y t4 rel6 rb => ?_)
                    obtain ⟨xd, ex, ec⟩ := Option.bind_eq_some_iff.mp ek
                    have rbd := RB.rb rel6 rb ex
                    refine ⟨k, sd.conv _ _ _ _ _ rbd ec, sd.room _ _ (by rw [sr.len]; show acc.length + 1 < 4096; omega), insS acc k, ρ5, tr2.trans ((Tr.same sm).trans (t3.trans t4)), Rel.wipe rel6 hlen agv, by rw [sd.add]; exact sr.add k, hl2⟩
                  · cases hl2
                · cases hl2
              · cases hl2
            · rename_i ρ4 e4
              refine ht F A O σ4 H' ρ3 _ _ _ rel4 e4 fun H3 t3 rel5 => ?_
              rw [if_neg (by decide)]
              exact ⟨acc, ρ4, tr2.trans ((Tr.same sm).trans t3), Rel.wipe rel5 hlen agv, sr, hl2⟩
            · cases hl2
        · rename_i ed
          have hge : ds.length ≤ i := List.getElem?_eq_none_iff.mp ed
          rw [List.drop_eq_nil_of_le hge] at hl2
          unfold scLoop at hl2
          cases hl2
          exact .inl ⟨wk2, post H x (t1.trans tr2) (rel1.back tr2 no rl2) sr⟩
      · cases hf
    · cases hf
  · rename_i x ρ1 q
    cases hf
    exact hi F A O σ H ρ _ _ _ rel q post
  · cases hf
theorem evs_sc {S : SetKd X.prog X.w ((β → Bool) × Nat) β} {conv : D → Option β} (sd : SetDt S conv) {elt tg iter : Expr} {ifs : List Expr} {scope : Scope} (own : List (Str × Nat)) {pos : Pos} {wi : TI} {g : TG} {tt : TT} {te : TE} {is : List Nat} {fi : M (List D)} {fg : D → DEnv → Option DEnv} {ft : M Bool} {fe : M R} (hc : X.calm = true) (hN : X.N.Nodup) (hi : EvI X W tg iter wi fi) (ok : BlkOk X.N X.env.scope scope own)
    (hg : ∀ (s : Shared) (H : Hp) (C : Addr) (cl : List (Str × Addr)) (fp : List Addr), ExG (X.blk s H scope (compEnvC scope cl C X.env) fp) is tg g fg)
    (ht : ∀ (s : Shared) (H : Hp) (C : Addr) (cl : List (Str × Addr)) (fp : List Addr), PTs (X.blk s H scope (compEnvC scope cl C X.env) fp) ifs tt ∧ SndT X.mg W0 tt ft)
    (he : ∀ (s : Shared) (H : Hp) (C : Addr) (cl : List (Str × Addr)) (fp : List Addr), Ev (X.blk s H scope (compEnvC scope cl C X.env) fp) W0 elt te fe)
    (his : ∀ i ∈ is, i ∈ own.map (·.2)) (hs : ∀ x, foldedSetIterable iter X.env x = pure x := by intro _; rfl) :
    EvS X W S (.SetComp elt [⟨tg, iter, ifs, 0⟩] scope pos) (tScP S wi g tt te (own.map (·.2))) (fSc conv fi (own.map (·.2)) fg ft fe) :=
  ⟨ps_sc hc hN hi.pe ok (fun s H C cl fp => (hg s H C cl fp).pe) (fun s H C cl fp => (ht s H C cl fp).1) (fun s H C cl fp => (he s H C cl fp).pe) hs, fun F A O σ H ρ r ρ' Q rel hf post => by
    cases r with
    | ok acc => exact snd_sc sd hi.sd (hg X.s_0 (fun _ => none) 0 [] []).sd his (ht X.s_0 (fun _ => none) 0 [] []).2 (he X.s_0 (fun _ => none) 0 [] []).sd rel hf post
    | error x => exact snd_sc sd hi.sd (hg X.s_0 (fun _ => none) 0 [] []).sd his (ht X.s_0 (fun _ => none) 0 [] []).2 (he X.s_0 (fun _ => none) 0 [] []).sd rel hf post⟩
end
section
variable {X : Cx} {W : WX} {e : Expr} {p pos : Pos}
def fSortedSc (f : M (List Int)) : M R := f.bind fun acc ρ => if acc.length < 64 then some (.ok (.fresh (.lst ((sortI acc).map .int))), ρ) else none
theorem EvS.then {β : Type} [DecidableEq β] {S : SetKd X.prog X.w ((β → Bool) × Nat) β} {t : L2.St → Hp → ((β → Bool) × Nat → Hp → Prop) → Prop} {f : M (List β)} {γ : Type} {r : Except Exc γ} {F : Addr → Prop} {A : Nat → Option Addr} {O : List (Option Addr)} {σ : L2.St} {H : Hp} {ρ ρ' : DEnv} {g : List β → M γ} {K : (β → Bool) × Nat → Hp → Prop} (hs : EvS X W S e t f) (rel : Rel F A O σ H ρ) (hf : M.bind f g ρ = some (r, ρ')) (pe : ∀ x, r = .error x → XPost X.mg W F A O σ H ρ' x)
    (k : ∀ H1 acc x ρ1, Tr O H O H1 → Rel F A O σ H1 ρ1 → SRep acc x → g acc ρ1 = some (r, ρ') → K x H1) : t σ H K := by
  unfold M.bind at hf
  split at hf
  · rename_i a ρ1 q
    exact hs.sd F A O σ H ρ _ _ K rel q fun H' x t rel' sr => k H' a x ρ1 t rel' sr hf
  · rename_i e ρ1 q
    cases hf
    exact hs.sd F A O σ H ρ _ _ K rel q (pe e rfl)
  · cases hf
theorem lt_of_le_nd : ∀ {l : List Int}, l.Pairwise (· ≤ ·) → l.Nodup → l.Pairwise (· < ·)
  | [], _, _ => .nil
  | a :: l, h, d => by
    obtain ⟨h1, h2⟩ := List.pairwise_cons.mp h
    obtain ⟨d1, d2⟩ := List.nodup_cons.mp d
    refine List.pairwise_cons.mpr ⟨fun y hy => ?_, lt_of_le_nd h2 d2⟩
    have h3 := h1 y hy
    have h4 : a ≠ y := fun z => d1 (by rw [z]; exact hy)
    omega
theorem sorted_same {l m : List Int} (hl : l.Pairwise (· < ·)) (hm : m.Pairwise (· < ·)) (h : ∀ k, k ∈ l ↔ k ∈ m) : l = m := by
  have nl : l.Nodup := hl.imp fun h => by omega
  have nm : m.Nodup := hm.imp fun h => by omega
  have hp : l.Perm m := (List.perm_ext_iff_of_nodup nl nm).mpr h
  exact List.Perm.eq_of_pairwise (le := (· ≤ ·)) (fun a b _ _ h1 h2 => by omega) (hl.imp fun h => by omega) (hm.imp fun h => by omega) hp
theorem ev_sortedSc {t : L2.St → Hp → ((Int → Bool) × Nat → Hp → Prop) → Prop} {f : M (List Int)} (hc : X.calm = true) (hg : Gl X "sorted") (hm : X.mg "sorted" = none) (h : EvS X W (intSet X.prog X.w) e t f)
    (he : starEach [e] X.env = (false, eval e X.env) :: starEach [] X.env := by rfl) : Ev X W (.Call (.Name "sorted" p) [e] [] pos) (tSortedSc t) (fSortedSc f) := by
  refine ⟨pe_sortedSc hc hg hm h.pe he, ?_⟩
  intro F A O σ H ρ r ρ' Q rel hf post
  refine h.then rel hf post.err fun H1 acc x ρ1 t1 rel1 sr hf1 => ?_
  split at hf1
  · rename_i c
    cases hf1
    refine ⟨by rw [sr.len]; exact c, fun ns q hs hmm hl hq => ?_⟩
    have e1 : ns = sortI acc := sorted_same hs (lt_of_le_nd (sortI_sorted acc) ((sortI_perm acc).nodup_iff.mpr sr.nd)) fun k => by
      rw [hmm, sr.mem, (sortI_perm acc).mem_iff]
      simp
    rw [e1]
    refine post H1 q _ t1 rel1 hq (.lst ?_)
    have all : ∀ l : List Int, RpAll (Bad F A O) H1 (l.map V.int) (l.map D.int) := fun l => by
      induction l with
      | nil => exact .nil
      | cons i l ih => exact .cons (.int _) ih
    exact all _
  · cases hf1
def fLenSc {β : Type} (f : M (List β)) : M R := f.bind fun acc ρ => if acc.length < 4096 then some (.ok (.val (.int acc.length)), ρ) else none
theorem ev_lenSc {t : L2.St → Hp → ((Key → Bool) × Nat → Hp → Prop) → Prop} {f : M (List Key)} (hg : Gl X "len") (hm : X.mg "len" = none) (h : EvS X W (keySet X.prog X.w) e t f)
    (he : starEach [e] X.env = (false, eval e X.env) :: starEach [] X.env := by rfl) : Ev X W (.Call (.Name "len" p) [e] [] pos) (tLenSc t) (fLenSc f) := by
  refine ⟨pe_lenSc hg hm h.pe he, ?_⟩
  intro F A O σ H ρ r ρ' Q rel hf post
  refine h.then rel hf post.err fun H1 acc x ρ1 t1 rel1 sr hf1 => ?_
  split at hf1
  · rename_i c
    cases hf1
    refine ⟨by rw [sr.len]; exact c, ?_⟩
    rw [sr.len]
    exact post H1 _ t1 rel1 (.int _)
  · cases hf1
end
end L3

namespace L3
open PySem L2
variable [Md] [Tb]
/-! ### enumerate -/
section
variable {X : Cx} {W : WX}
def enumD (ds : List D) : List D := (List.range ds.length).zipWith (fun i d => .tup [.int (i : Nat), d]) ds
theorem enumD_get {ds : List D} {i : Nat} : (enumD ds)[i]? = (ds[i]?).map fun d => .tup [.int (i : Nat), d] := by
  unfold enumD
  rw [List.getElem?_zipWith]
  by_cases h : i < ds.length
  · rw [List.getElem?_range h, List.getElem?_eq_getElem h]; rfl
  · rw [List.getElem?_eq_none (l := ds) (by omega)]
    cases (List.range ds.length)[i]? <;> rfl
def fItE (f : M R) : M (List D) := f.bind fun r ρ => match stab r with
  | some (.lst ds) => some (.ok (enumD ds), ρ)
  | _ => none
theorem evi_enum {e : Expr} {t : TE} {f : M R} {p pos tpos : Pos} {elts : List Expr} {kk : Nat} (hfz : Md.fz = false) (hg : Gl X "enumerate") (hm : X.mg "enumerate" = none) (h : Ev X W e t f) (hs : starEach [e] X.env = [(false, eval e X.env)] := by rfl) (hn : starEach [e] X.env = (false, eval e X.env) :: starEach [] X.env := by rfl) :
    EvI X W (.Tuple elts kk tpos) (.Call (.Name "enumerate" p) [e] [] pos) (iEnum X.K (tCons t tNil)) (fItE f) := by
  refine ⟨pi_enum hg hm (pa_cons h.pe pa_nil hn) hs, ?_⟩
  intro F A O σ H ρ r ρ' Q rel hf post
  refine h.sd.then rel hf (fun x e => by subst e; exact post) fun H1 v x ρ1 t1 rel1 rb hf1 => ?_
  split at hf1
  · rename_i ds e
    cases hf1
    obtain ⟨a, vs, rfl, ea, ra, na⟩ := (rb.stab e).lst
    refine ⟨a, vs, rfl, SqL.of ea, post H1 _ t1 rel1 ?_⟩
    intro B1 H2 tr gd i
    have e2 := tr a _ na ea (fun _ h => by cases h)
    have ra2 := RpAll.mono tr ra
    rw [enumD_get]
    cases ed : ds[i]? with
    | some d =>
      simp only [Option.map_some]
      obtain ⟨u, eu, ru⟩ := ra2.get ed
      refine ⟨⟨vs, u, SqL.of e2.1, eu⟩, fun x H' hy => ?_⟩
      obtain ⟨T, w, rfl, nT, rfl, hx⟩ := hy
      have hx2 := hx vs (SqL.of e2.1)
      rw [eu] at hx2; cases hx2
      have sm : Same H2 (upd H2 T (.tup [.int (i : Nat), u])) := same_new nT _
      refine ⟨sm, Rp.ob upd_same (gd T nT) (.tup (.inl ⟨hfz, rfl⟩) ?_)⟩
      exact .cons (.int _) (.cons (Rp.mono (fun b o n e _ => ⟨sm b o e, n⟩) ru) .nil)
    | none =>
      simp only [Option.map_none]
      exact ⟨vs, SqL.of e2.1, by rw [ra.length]; exact List.getElem?_eq_none_iff.mp ed⟩
  · cases hf1
end
end L3

namespace L3
open PySem L2
variable [Md] [Tb]
section
variable {X : Cx} {W : WX}
/-! ### -x, xs.extend(ys) -/
def fNeg (f : M R) : M R := f.bind fun r ρ => match deref ρ r with
  | some (.int i) => some (.ok (.val (.int (-i))), ρ)
  | _ => none
theorem ev_neg {a : Expr} {pos : Pos} {ta : TE} {fa : M R} (ha : Ev X W a ta fa) : Ev X W (.UnaryOp .USub a pos) (tUn (rU fun i => .int (-i)) ta) (fNeg fa) := by
  refine ⟨pe_un un_neg ha.pe, ?_⟩
  intro F A O σ H ρ r ρ' Q rel hf post
  refine ha.sd.then rel hf post.err fun H1 v x ρ1 t1 rel1 rb hf1 => ?_
  split at hf1
  · rename_i i e
    cases hf1
    exact ⟨i, (rb.rb rel1 e).int, post H1 _ t1 rel1 (.int _)⟩
  · cases hf1
def gExtend : D → List D → Option (D × D)
  | .lst ds, [.lst es] => if ds.length + es.length ≤ sizeLine then some (.non, .lst (ds ++ es)) else none
  | _, _ => none
theorem ad_extend : AdM rExtend gExtend := by
  intro B H p o vs d ds z d' Q hp mu ob rs e k
  unfold gExtend at e
  split at e
  · rename_i xs ys
    split at e
    · rename_i c
      cases e
      obtain ⟨us, rfl, r⟩ := ob.lst'
      cases rs with
      | cons r1 t1 =>
        cases t1
        obtain ⟨b, ws, rfl, eb, rb, nb⟩ := Rp.lst r1
        exact ⟨p, b, us, ws, rfl, rfl, hp, eb, by rw [r.length, rb.length]; exact c, k _ _ trivial (.lst (r.append rb)) .non⟩
    · cases e
  · cases e
end
end L3

namespace L3
/-! ### dicts as lists of pairs -/
def val {α : Type} (kv : List (Nat × α)) (k : Nat) : Option α := (kv.find? fun e => decide (e.1 = k)).map (·.2)
def put {α : Type} (kv : List (Nat × α)) (k : Nat) (v : α) : List (Nat × α) :=
  if (kv.any fun e => decide (e.1 = k)) = true then kv.map (fun e => if e.1 = k then (e.1, v) else e) else kv ++ [(k, v)]
theorem val_nil {α : Type} (k : Nat) : val ([] : List (Nat × α)) k = none := rfl
theorem val_cons {α : Type} (e : Nat × α) (kv : List (Nat × α)) (k : Nat) : val (e :: kv) k = if e.1 = k then some e.2 else val kv k := by
  unfold val
  by_cases h : e.1 = k
  · rw [List.find?_cons_of_pos (by simpa using h), if_pos h]; rfl
  · rw [List.find?_cons_of_neg (by simpa using h), if_neg h]
theorem any_val {α : Type} (kv : List (Nat × α)) (k : Nat) : (kv.any fun e => decide (e.1 = k)) = (val kv k).isSome := by
  induction kv with
  | nil => rfl
  | cons e kv ih =>
    rw [List.any_cons, val_cons, ih]
    by_cases h : e.1 = k <;> simp [h]
theorem val_map {α : Type} (kv : List (Nat × α)) (k j : Nat) (v : α) : val (kv.map fun e => if e.1 = k then (e.1, v) else e) j = if j = k then (val kv j).map (fun _ => v) else val kv j := by
  induction kv with
  | nil => simp [val_nil]
  | cons e kv ih =>
    rw [List.map_cons, val_cons, val_cons, ih]
    by_cases h : e.1 = k
    · by_cases hj : j = k
      · simp [h, hj]
      · simp [h, hj, Ne.symm hj]
    · by_cases hj : j = k
      · subst hj; simp [h]
      · simp [h, hj]
theorem val_app {α : Type} (kv : List (Nat × α)) (e : Nat × α) (j : Nat) : val (kv ++ [e]) j = match val kv j with | some v => some v | none => if e.1 = j then some e.2 else none := by
  induction kv with
  | nil => rw [List.nil_append, val_cons, val_nil]
  | cons d kv ih =>
    rw [List.cons_append, val_cons, val_cons, ih]
    by_cases h : d.1 = j
    · simp [h]
    · simp only [if_neg h]
theorem val_put {α : Type} (kv : List (Nat × α)) (k j : Nat) (v : α) : val (put kv k v) j = if j = k then some v else val kv j := by
  unfold put
  rw [any_val]
  split
  · rename_i h
    rw [val_map]
    by_cases hj : j = k
    · subst hj
      rw [if_pos rfl, if_pos rfl]
      cases hv : val kv j with
      | none => rw [hv] at h; cases h
      | some w => rfl
    · rw [if_neg hj, if_neg hj]
  · rename_i h
    rw [val_app]
    by_cases hj : j = k
    · subst hj
      rw [if_pos rfl]
      cases hv : val kv j with
      | none => simp
      | some w => rw [hv] at h; exact absurd rfl h
    · rw [if_neg hj]
      cases hv : val kv j with
      | none => simp [Ne.symm hj]
      | some w => rfl
def keys {α : Type} (kv : List (Nat × α)) : List Nat := kv.map (·.1)
theorem mem_keys {α : Type} (kv : List (Nat × α)) (k : Nat) : k ∈ keys kv ↔ ∃ v, val kv k = some v := by
  induction kv with
  | nil => simp [keys, val_nil]
  | cons e kv ih =>
    rw [val_cons]
    unfold keys at ih ⊢
    rw [List.map_cons, List.mem_cons, ih]
    by_cases h : e.1 = k
    · simp [h]
    · simp [h, Ne.symm h]
theorem keys_put {α : Type} (kv : List (Nat × α)) (k : Nat) (v : α) : keys (put kv k v) = if (val kv k).isSome = true then keys kv else keys kv ++ [k] := by
  unfold put keys
  rw [any_val]
  split
  · rename_i h
    rw [List.map_map]
    refine List.map_congr_left fun e _ => ?_
    show (if e.1 = k then (e.1, v) else e).1 = e.1
    split <;> rfl
  · rename_i h
    rw [List.map_append]; rfl
theorem nd_put {α : Type} {kv : List (Nat × α)} (h : (keys kv).Nodup) (k : Nat) (v : α) : (keys (put kv k v)).Nodup := by
  rw [keys_put]
  split
  · exact h
  · rename_i hk
    rw [List.nodup_append]
    refine ⟨h, by simp, fun a ha b hb => ?_⟩
    rw [List.mem_singleton] at hb
    subst hb
    rintro rfl
    obtain ⟨w, hw⟩ := (mem_keys _ _).mp ha
    rw [hw] at hk
    exact hk rfl
/-! ### lists without doubles -/
theorem nd_len : ∀ {l m : List Nat}, l.Nodup → (∀ x ∈ l, x ∈ m) → l.length ≤ m.length
  | [], m, _, _ => Nat.zero_le _
  | a :: l, m, h, hs => by
    have ha : a ∈ m := hs a List.mem_cons_self
    rw [List.nodup_cons] at h
    have h1 : ∀ x ∈ l, x ∈ m.erase a := fun x hx => by
      have hne : x ≠ a := fun z => h.1 (by rw [← z]; exact hx)
      exact (List.mem_erase_of_ne hne).mpr (hs x (List.mem_cons_of_mem _ hx))
    have h2 := nd_len h.2 h1
    rw [List.length_erase_of_mem ha] at h2
    have h3 : 0 < m.length := List.length_pos_of_mem ha
    rw [List.length_cons]
    omega
theorem filter_less {α : Type} {p q : α → Bool} : ∀ {l : List α}, (∀ x ∈ l, q x = true → p x = true) → (l.filter q).length ≤ (l.filter p).length
  | [], _ => Nat.le_refl _
  | a :: l, h => by
    have ih := filter_less (l := l) fun x hx => h x (List.mem_cons_of_mem _ hx)
    have ha := h a List.mem_cons_self
    rw [List.filter_cons, List.filter_cons]
    cases hq : q a with
    | true => rw [if_pos rfl, if_pos (ha hq), List.length_cons, List.length_cons]; omega
    | false =>
      rw [if_neg (by simp)]
      split
      · rw [List.length_cons]; omega
      · exact ih
theorem filter_one {α : Type} {p q : α → Bool} {j : α} : ∀ {l : List α}, (∀ x ∈ l, q x = true → p x = true) → j ∈ l → p j = true → q j = false → (l.filter q).length + 1 ≤ (l.filter p).length
  | [], _, hj, _, _ => by cases hj
  | a :: l, h, hj, hp, hq => by
    rw [List.filter_cons, List.filter_cons]
    rcases List.mem_cons.mp hj with rfl | hj
    · rw [if_neg (by simp [hq]), if_pos hp, List.length_cons]
      have := filter_less (l := l) fun x hx => h x (List.mem_cons_of_mem _ hx)
      omega
    · have ih := filter_one (l := l) (fun x hx => h x (List.mem_cons_of_mem _ hx)) hj hp hq
      have ha := h a List.mem_cons_self
      cases hqa : q a with
      | true => rw [if_pos rfl, if_pos (ha hqa), List.length_cons, List.length_cons]; omega
      | false =>
        rw [if_neg (by simp)]
        split
        · rw [List.length_cons]; omega
        · exact ih
end L3

namespace L3
open PySem L2
variable [Md] [Tb]
/-! ### the law's dice -/
def dRoll : M Fl :=
    (fSeq (fIfS (fOr (fTest (fBin gEq (fBin gIx (fVar 0) (fC (.int 2))) (fC (.int 2)))) (fAnd (fTest (fBin gEq (fBin gIx (fVar 0) (fC (.int 2))) (fC (.int 1)))) (fTest (fBin gGt (fBin gIx (fVar 0) (fC (.int 0))) (fC (.int 0)))))) (fSeq (fPar [(2, false)] (fCons (fBin gMod (fCB gInt (fCons (fBin gIx (fVar 0) (fC (.int 0))) fNil)) (fVar 1)) fNil))
    (fSeq (fStore (fBin gDiv (fBin gIx (fVar 0) (fC (.int 0))) (fVar 1)) (fVar 0) (fC (.int 0)))
    (fRet (fVar 2)))) fNext)
    (fSeq (fStore (fC (.int 0)) (fVar 0) (fC (.int 2)))
    (fSeq (fStore (fBin gMod (fCB gInt (fCons (fBin gAdd (fBin gAdd (fBin gMul (fBin gIx (fVar 0) (fC (.int 0))) (fC (.int 48271))) (fBin gMul (fBin gIx (fVar 0) (fC (.int 1))) (fC (.int 69621)))) (fC (.int 11))) fNil)) (fC (.int 2147483647))) (fVar 0) (fC (.int 0)))
    (fSeq (fStore (fBin gAdd (fBin gIx (fVar 0) (fC (.int 1))) (fC (.int 1))) (fVar 0) (fC (.int 1)))
    (fRet (fBin gMod (fCB gInt (fCons (fBin gAdd (fBin gDiv (fBin gIx (fVar 0) (fC (.int 0))) (fC (.int 7))) (fBin gIx (fVar 0) (fC (.int 0)))) fNil)) (fVar 1)))))))
def gRoll : GD := mkG 3 [0] dRoll
theorem at3_0 (a b c : D) : atI [a, b, c] (0 : Int) = some a := rfl
theorem at3_1 (a b c : D) : atI [a, b, c] (1 : Int) = some b := rfl
theorem at3_2 (a b c : D) : atI [a, b, c] (2 : Int) = some c := rfl
theorem pt3_0 (a b c x : D) : putAt (.lst [a, b, c]) (.int 0) x = some (.lst [x, b, c]) := rfl
theorem pt3_1 (a b c x : D) : putAt (.lst [a, b, c]) (.int 1) x = some (.lst [a, x, c]) := rfl
theorem pt3_2 (a b c x : D) : putAt (.lst [a, b, c]) (.int 2) x = some (.lst [a, b, x]) := rfl
theorem roll_ok (x y z m : Int) (hm : 0 < m) (hm2 : m < 1073741824) : ∃ r x' y' z', gRoll [diceD x y z, .int m] = some (.ok (.int r), [diceD x' y' z']) ∧ 0 ≤ r ∧ r < m := by
  have hne : m ≠ 0 := by omega
  have h2 : m.natAbs < 1073741824 := by omega
  have hs : ∀ a b c : Int, startD 3 [0] [.lst [.int a, .int b, .int c], .int m] = [some (.io (.lst [.int a, .int b, .int c])), some (.sh (.int m)), none] := fun _ _ _ => rfl
  have gM : ∀ i : Int, gMod (.int i) (.int m) = some (.val (.int (i.fmod m))) := fun i => gMod_int hne
  have gK : ∀ i : Int, gMod (.int i) (.int 2147483647) = some (.val (.int (i.fmod 2147483647))) := fun i => gMod_int (by decide)
  have gD : ∀ i : Int, gDiv (.int i) (.int m) = some (.val (.int (i.fdiv m))) := fun i => gDiv_int hne h2
  have g7 : ∀ i : Int, gDiv (.int i) (.int 7) = some (.val (.int (i.fdiv 7))) := fun i => gDiv_int (by decide) (by decide)
  have gU : ∀ i : Int, gMul (.int i) (.int 48271) = some (.val (.int (i * 48271))) := fun i => gMul_int (by decide)
  have gV : ∀ i : Int, gMul (.int i) (.int 69621) = some (.val (.int (i * 69621))) := fun i => gMul_int (by decide)
  by_cases c : z = 2 ∨ (z = 1 ∧ 0 < x)
  · refine ⟨x.fmod m, x.fdiv m, y, z, ?_, Int.fmod_nonneg_of_pos _ hm, Int.fmod_lt_of_pos _ hm⟩
    rcases c with c | ⟨c, c0⟩
    · subst c
      simp only [bT_ok, bT_err, bT_none, bind_ap, pure_ap, of_ap, ofT_some, ofT_none, at0_zero, at0_succ, var_ap, vT_sh, vT_ow, vT_io, cont_ap, cT_ow, cT_io, deref_val, deref_fresh, deref_slot, stab_val, stab_fresh, set0_zero, set0_succ, setC_ap, scT_ow, scT_io, fC_ap, binT_some, binK2_ap, binK1_ap, bin_ap, testT_bl, testK_ap, test_ap, truT_some, truK_ap, truth_ap, andK_t, andK_f, and_ap, orK_f, orK_t, or_ap, notK_ap, not_ap, ifK_t, ifK_f, if_ap, ifS_ap, andVT_t, andVT_f, andVK_ap, andV_ap, orVT_f, orVT_t, orVK_ap, orV_ap, notVT_bl, notVK_ap, notV_ap, chK3_ap, chT0_some, chT_t, chT_f, chK2_ap, chK1_ap, chain_ap, nil_ap, consK2_ap, consK1_ap, cons_ap, cons2_some, stabs_nil, stabs_cons, derefs_nil, derefs_cons, tupK_ap, tup_ap, lstK_ap, lst_ap, tupT_0, tupT_1, tupT_2, tupT_3, lstT_0, lstT_1, lstT_2, lstT_3, cbT_some, cbK_ap, cb_ap, mtT2_some, mtK2_ap, mtK_ap, mt_ap, ty_lst, mutT3_some, mutT2_some, mutK2_ap, mutT0_slot, mut_ap, slT_some, slK3_ap, slK2_ap, slK1_ap, sl_ap, intT_int, partK_ap, part_ap, rg1T_int, rg1K_ap, rg1_ap, rg2T_int, rg2K2_ap, rg2K1_ap, rg2_ap, lrK_ap, listRg_ap, next_ap, seq_ap, sqT_next, sqT_ret, sqT_brk, sqT_cont, sqT_err, dropK_ap, drop_ap, retT_some, retK_ap, ret_ap, retD_val, retD_fresh, owT_ow, retD_slot, io0_n, io0_sh, io0_ow, io0_succ, noIo_ap, asg_nil, asg_cons, asT2_some, asg_valF, asg_freF, asg_freL, asg_freK, asg_freT, parT_some, parK_ap, par_ap, valT_some, valK_ap, val_ap, stT2_some, stT_some, stT0_slot, stK3_ap, stK2_ap, stK1_ap, store_ap, auT3_some, auK3_ap, auT2_some, auT1_some, auT0_slot, auK2_ap, auK1_ap, augS_ap, augT2_int, augK_ap, augT_int, aug_ap, itLT_lst, itLK_ap, itL_ap, itTT_tup, itTK_ap, itT_ap, itR1T_int, itR1K_ap, itR1_ap, itR2T_int, itR2K_ap, itR2_ap, for_ap, lcT_some, lcK_ap, lc_ap, clK_ap, call_ap, clT0_some, clT_ok, clT_err, raise_ap, try_ap, tryT_err, tryT_ok, noErr_ap, neT_ok, share_ap, shT_ow, mkG_ap, enT_ret, enT_next, enT_err, outs_nil, outs_cons, ouT_io, gEq_int, gNe_int, gAdd_int, gSub_int, gLt_int, gLe_int, gGt_int, gGe_int, gInt_int, gAbs_int, gIx_lst, gIx_tup, gLen_lst, gLen_tup, gLen_dK, gTupleOf_lst, gTupleOf_tup, gListOf_lst, gListOf_tup, set_ap, tg_ap, wipe_nil, wipe_cons, pb_nil, pb_cons, noOwn_ap, noT_none, noT_sh, putC_nil, putC_cons, ioL_nil, ioL_cons, ioLT_slot, ioLT_fresh, argOk_nil, argOk_val, argOk_fresh, argOk_slot, clT0_some, List.all_cons, List.all_nil, Bool.and_true, Bool.true_and, Bool.and_self, Bool.not_false, Bool.not_true, eq_self, if_true, if_false, and_true, true_and, and_self, List.length_cons, List.length_nil, List.mem_cons, List.not_mem_nil, or_false, false_or, true_or, decide_true, decide_false, forall_eq, List.getElem?_cons_zero, List.getElem?_cons_succ, Option.map_some, ty_lst, Nat.zero_add, not_false_eq_true, implies_true, false_implies, Nat.lt_add_one, Nat.zero_lt_succ, Nat.reduceLT, Nat.reduceAdd, Nat.reduceEqDiff, mutT_LN, mtT_LN, mutT_lst, mtT_lst, gRoll, dRoll, hs, diceD, at3_0, at3_1, at3_2, pt3_0, pt3_1, pt3_2, gM, gD, Option.map_some, decide_true, if_true]
    · subst c
      have : ¬ (1 : Int) = 2 := by decide
      simp only [bT_ok, bT_err, bT_none, bind_ap, pure_ap, of_ap, ofT_some, ofT_none, at0_zero, at0_succ, var_ap, vT_sh, vT_ow, vT_io, cont_ap, cT_ow, cT_io, deref_val, deref_fresh, deref_slot, stab_val, stab_fresh, set0_zero, set0_succ, setC_ap, scT_ow, scT_io, fC_ap, binT_some, binK2_ap, binK1_ap, bin_ap, testT_bl, testK_ap, test_ap, truT_some, truK_ap, truth_ap, andK_t, andK_f, and_ap, orK_f, orK_t, or_ap, notK_ap, not_ap, ifK_t, ifK_f, if_ap, ifS_ap, andVT_t, andVT_f, andVK_ap, andV_ap, orVT_f, orVT_t, orVK_ap, orV_ap, notVT_bl, notVK_ap, notV_ap, chK3_ap, chT0_some, chT_t, chT_f, chK2_ap, chK1_ap, chain_ap, nil_ap, consK2_ap, consK1_ap, cons_ap, cons2_some, stabs_nil, stabs_cons, derefs_nil, derefs_cons, tupK_ap, tup_ap, lstK_ap, lst_ap, tupT_0, tupT_1, tupT_2, tupT_3, lstT_0, lstT_1, lstT_2, lstT_3, cbT_some, cbK_ap, cb_ap, mtT2_some, mtK2_ap, mtK_ap, mt_ap, ty_lst, mutT3_some, mutT2_some, mutK2_ap, mutT0_slot, mut_ap, slT_some, slK3_ap, slK2_ap, slK1_ap, sl_ap, intT_int, partK_ap, part_ap, rg1T_int, rg1K_ap, rg1_ap, rg2T_int, rg2K2_ap, rg2K1_ap, rg2_ap, lrK_ap, listRg_ap, next_ap, seq_ap, sqT_next, sqT_ret, sqT_brk, sqT_cont, sqT_err, dropK_ap, drop_ap, retT_some, retK_ap, ret_ap, retD_val, retD_fresh, owT_ow, retD_slot, io0_n, io0_sh, io0_ow, io0_succ, noIo_ap, asg_nil, asg_cons, asT2_some, asg_valF, asg_freF, asg_freL, asg_freK, asg_freT, parT_some, parK_ap, par_ap, valT_some, valK_ap, val_ap, stT2_some, stT_some, stT0_slot, stK3_ap, stK2_ap, stK1_ap, store_ap, auT3_some, auK3_ap, auT2_some, auT1_some, auT0_slot, auK2_ap, auK1_ap, augS_ap, augT2_int, augK_ap, augT_int, aug_ap, itLT_lst, itLK_ap, itL_ap, itTT_tup, itTK_ap, itT_ap, itR1T_int, itR1K_ap, itR1_ap, itR2T_int, itR2K_ap, itR2_ap, for_ap, lcT_some, lcK_ap, lc_ap, clK_ap, call_ap, clT0_some, clT_ok, clT_err, raise_ap, try_ap, tryT_err, tryT_ok, noErr_ap, neT_ok, share_ap, shT_ow, mkG_ap, enT_ret, enT_next, enT_err, outs_nil, outs_cons, ouT_io, gEq_int, gNe_int, gAdd_int, gSub_int, gLt_int, gLe_int, gGt_int, gGe_int, gInt_int, gAbs_int, gIx_lst, gIx_tup, gLen_lst, gLen_tup, gLen_dK, gTupleOf_lst, gTupleOf_tup, gListOf_lst, gListOf_tup, set_ap, tg_ap, wipe_nil, wipe_cons, pb_nil, pb_cons, noOwn_ap, noT_none, noT_sh, putC_nil, putC_cons, ioL_nil, ioL_cons, ioLT_slot, ioLT_fresh, argOk_nil, argOk_val, argOk_fresh, argOk_slot, clT0_some, List.all_cons, List.all_nil, Bool.and_true, Bool.true_and, Bool.and_self, Bool.not_false, Bool.not_true, eq_self, if_true, if_false, and_true, true_and, and_self, List.length_cons, List.length_nil, List.mem_cons, List.not_mem_nil, or_false, false_or, true_or, decide_true, decide_false, forall_eq, List.getElem?_cons_zero, List.getElem?_cons_succ, Option.map_some, ty_lst, Nat.zero_add, not_false_eq_true, implies_true, false_implies, Nat.lt_add_one, Nat.zero_lt_succ, Nat.reduceLT, Nat.reduceAdd, Nat.reduceEqDiff, mutT_LN, mtT_LN, mutT_lst, mtT_lst, gRoll, dRoll, hs, diceD, at3_0, at3_1, at3_2, pt3_0, pt3_1, pt3_2, gM, gD, Option.map_some, decide_true, if_true, this, c0, decide_false]
  · have c3 : ¬ z = 2 := fun h => c (.inl h)
    have c4 : z = 1 → ¬ 0 < x := fun h h' => c (.inr ⟨h, h'⟩)
    refine ⟨((((x * 48271 + y * 69621 + 11).fmod 2147483647).fdiv 7 + (x * 48271 + y * 69621 + 11).fmod 2147483647)).fmod m, (x * 48271 + y * 69621 + 11).fmod 2147483647, y + 1, 0, ?_, Int.fmod_nonneg_of_pos _ hm, Int.fmod_lt_of_pos _ hm⟩
    by_cases c5 : z = 1
    · have := c4 c5
      have e12 : ¬ (1 : Int) = 2 := by decide
      simp only [bT_ok, bT_err, bT_none, bind_ap, pure_ap, of_ap, ofT_some, ofT_none, at0_zero, at0_succ, var_ap, vT_sh, vT_ow, vT_io, cont_ap, cT_ow, cT_io, deref_val, deref_fresh, deref_slot, stab_val, stab_fresh, set0_zero, set0_succ, setC_ap, scT_ow, scT_io, fC_ap, binT_some, binK2_ap, binK1_ap, bin_ap, testT_bl, testK_ap, test_ap, truT_some, truK_ap, truth_ap, andK_t, andK_f, and_ap, orK_f, orK_t, or_ap, notK_ap, not_ap, ifK_t, ifK_f, if_ap, ifS_ap, andVT_t, andVT_f, andVK_ap, andV_ap, orVT_f, orVT_t, orVK_ap, orV_ap, notVT_bl, notVK_ap, notV_ap, chK3_ap, chT0_some, chT_t, chT_f, chK2_ap, chK1_ap, chain_ap, nil_ap, consK2_ap, consK1_ap, cons_ap, cons2_some, stabs_nil, stabs_cons, derefs_nil, derefs_cons, tupK_ap, tup_ap, lstK_ap, lst_ap, tupT_0, tupT_1, tupT_2, tupT_3, lstT_0, lstT_1, lstT_2, lstT_3, cbT_some, cbK_ap, cb_ap, mtT2_some, mtK2_ap, mtK_ap, mt_ap, ty_lst, mutT3_some, mutT2_some, mutK2_ap, mutT0_slot, mut_ap, slT_some, slK3_ap, slK2_ap, slK1_ap, sl_ap, intT_int, partK_ap, part_ap, rg1T_int, rg1K_ap, rg1_ap, rg2T_int, rg2K2_ap, rg2K1_ap, rg2_ap, lrK_ap, listRg_ap, next_ap, seq_ap, sqT_next, sqT_ret, sqT_brk, sqT_cont, sqT_err, dropK_ap, drop_ap, retT_some, retK_ap, ret_ap, retD_val, retD_fresh, owT_ow, retD_slot, io0_n, io0_sh, io0_ow, io0_succ, noIo_ap, asg_nil, asg_cons, asT2_some, asg_valF, asg_freF, asg_freL, asg_freK, asg_freT, parT_some, parK_ap, par_ap, valT_some, valK_ap, val_ap, stT2_some, stT_some, stT0_slot, stK3_ap, stK2_ap, stK1_ap, store_ap, auT3_some, auK3_ap, auT2_some, auT1_some, auT0_slot, auK2_ap, auK1_ap, augS_ap, augT2_int, augK_ap, augT_int, aug_ap, itLT_lst, itLK_ap, itL_ap, itTT_tup, itTK_ap, itT_ap, itR1T_int, itR1K_ap, itR1_ap, itR2T_int, itR2K_ap, itR2_ap, for_ap, lcT_some, lcK_ap, lc_ap, clK_ap, call_ap, clT0_some, clT_ok, clT_err, raise_ap, try_ap, tryT_err, tryT_ok, noErr_ap, neT_ok, share_ap, shT_ow, mkG_ap, enT_ret, enT_next, enT_err, outs_nil, outs_cons, ouT_io, gEq_int, gNe_int, gAdd_int, gSub_int, gLt_int, gLe_int, gGt_int, gGe_int, gInt_int, gAbs_int, gIx_lst, gIx_tup, gLen_lst, gLen_tup, gLen_dK, gTupleOf_lst, gTupleOf_tup, gListOf_lst, gListOf_tup, set_ap, tg_ap, wipe_nil, wipe_cons, pb_nil, pb_cons, noOwn_ap, noT_none, noT_sh, putC_nil, putC_cons, ioL_nil, ioL_cons, ioLT_slot, ioLT_fresh, argOk_nil, argOk_val, argOk_fresh, argOk_slot, clT0_some, List.all_cons, List.all_nil, Bool.and_true, Bool.true_and, Bool.and_self, Bool.not_false, Bool.not_true, eq_self, if_true, if_false, and_true, true_and, and_self, List.length_cons, List.length_nil, List.mem_cons, List.not_mem_nil, or_false, false_or, true_or, decide_true, decide_false, forall_eq, List.getElem?_cons_zero, List.getElem?_cons_succ, Option.map_some, ty_lst, Nat.zero_add, not_false_eq_true, implies_true, false_implies, Nat.lt_add_one, Nat.zero_lt_succ, Nat.reduceLT, Nat.reduceAdd, Nat.reduceEqDiff, mutT_LN, mtT_LN, mutT_lst, mtT_lst, e12, gRoll, dRoll, hs, diceD, at3_0, at3_1, at3_2, pt3_0, pt3_1, pt3_2, gM, gD, gK, g7, gU, gV, Option.map_some, decide_true, if_true, this, c3, c5, decide_false]
    · simp only [bT_ok, bT_err, bT_none, bind_ap, pure_ap, of_ap, ofT_some, ofT_none, at0_zero, at0_succ, var_ap, vT_sh, vT_ow, vT_io, cont_ap, cT_ow, cT_io, deref_val, deref_fresh, deref_slot, stab_val, stab_fresh, set0_zero, set0_succ, setC_ap, scT_ow, scT_io, fC_ap, binT_some, binK2_ap, binK1_ap, bin_ap, testT_bl, testK_ap, test_ap, truT_some, truK_ap, truth_ap, andK_t, andK_f, and_ap, orK_f, orK_t, or_ap, notK_ap, not_ap, ifK_t, ifK_f, if_ap, ifS_ap, andVT_t, andVT_f, andVK_ap, andV_ap, orVT_f, orVT_t, orVK_ap, orV_ap, notVT_bl, notVK_ap, notV_ap, chK3_ap, chT0_some, chT_t, chT_f, chK2_ap, chK1_ap, chain_ap, nil_ap, consK2_ap, consK1_ap, cons_ap, cons2_some, stabs_nil, stabs_cons, derefs_nil, derefs_cons, tupK_ap, tup_ap, lstK_ap, lst_ap, tupT_0, tupT_1, tupT_2, tupT_3, lstT_0, lstT_1, lstT_2, lstT_3, cbT_some, cbK_ap, cb_ap, mtT2_some, mtK2_ap, mtK_ap, mt_ap, ty_lst, mutT3_some, mutT2_some, mutK2_ap, mutT0_slot, mut_ap, slT_some, slK3_ap, slK2_ap, slK1_ap, sl_ap, intT_int, partK_ap, part_ap, rg1T_int, rg1K_ap, rg1_ap, rg2T_int, rg2K2_ap, rg2K1_ap, rg2_ap, lrK_ap, listRg_ap, next_ap, seq_ap, sqT_next, sqT_ret, sqT_brk, sqT_cont, sqT_err, dropK_ap, drop_ap, retT_some, retK_ap, ret_ap, retD_val, retD_fresh, owT_ow, retD_slot, io0_n, io0_sh, io0_ow, io0_succ, noIo_ap, asg_nil, asg_cons, asT2_some, asg_valF, asg_freF, asg_freL, asg_freK, asg_freT, parT_some, parK_ap, par_ap, valT_some, valK_ap, val_ap, stT2_some, stT_some, stT0_slot, stK3_ap, stK2_ap, stK1_ap, store_ap, auT3_some, auK3_ap, auT2_some, auT1_some, auT0_slot, auK2_ap, auK1_ap, augS_ap, augT2_int, augK_ap, augT_int, aug_ap, itLT_lst, itLK_ap, itL_ap, itTT_tup, itTK_ap, itT_ap, itR1T_int, itR1K_ap, itR1_ap, itR2T_int, itR2K_ap, itR2_ap, for_ap, lcT_some, lcK_ap, lc_ap, clK_ap, call_ap, clT0_some, clT_ok, clT_err, raise_ap, try_ap, tryT_err, tryT_ok, noErr_ap, neT_ok, share_ap, shT_ow, mkG_ap, enT_ret, enT_next, enT_err, outs_nil, outs_cons, ouT_io, gEq_int, gNe_int, gAdd_int, gSub_int, gLt_int, gLe_int, gGt_int, gGe_int, gInt_int, gAbs_int, gIx_lst, gIx_tup, gLen_lst, gLen_tup, gLen_dK, gTupleOf_lst, gTupleOf_tup, gListOf_lst, gListOf_tup, set_ap, tg_ap, wipe_nil, wipe_cons, pb_nil, pb_cons, noOwn_ap, noT_none, noT_sh, putC_nil, putC_cons, ioL_nil, ioL_cons, ioLT_slot, ioLT_fresh, argOk_nil, argOk_val, argOk_fresh, argOk_slot, clT0_some, List.all_cons, List.all_nil, Bool.and_true, Bool.true_and, Bool.and_self, Bool.not_false, Bool.not_true, eq_self, if_true, if_false, and_true, true_and, and_self, List.length_cons, List.length_nil, List.mem_cons, List.not_mem_nil, or_false, false_or, true_or, decide_true, decide_false, forall_eq, List.getElem?_cons_zero, List.getElem?_cons_succ, Option.map_some, ty_lst, Nat.zero_add, not_false_eq_true, implies_true, false_implies, Nat.lt_add_one, Nat.zero_lt_succ, Nat.reduceLT, Nat.reduceAdd, Nat.reduceEqDiff, mutT_LN, mtT_LN, mutT_lst, mtT_lst, gRoll, dRoll, hs, diceD, at3_0, at3_1, at3_2, pt3_0, pt3_1, pt3_2, gM, gD, gK, g7, gU, gV, Option.map_some, decide_true, if_true, c3, c5, decide_false]
theorem roll_N (x y z : Int) {n : Nat} (h0 : 0 < n) (hn : n ≤ 1000) : ∃ (r : Nat) (x' y' z' : Int), gRoll [diceD x y z, iN n] = some (.ok (iN r), [diceD x' y' z']) ∧ r < n := by
  obtain ⟨r, x', y', z', h1, h2, h3⟩ := roll_ok x y z n (by omega) (by omega)
  refine ⟨r.toNat, x', y', z', ?_, by omega⟩
  unfold iN
  rw [h1, show ((r.toNat : Nat) : Int) = r from by omega]
def okS (o : Option SV) : Prop := o = none ∨ ∃ d, o = some (.sh d)
theorem okS.io {o : Option SV} (h : okS o) (r : DEnv) : io0 (o :: r) 0 = true := by
  rcases h with rfl | ⟨d, rfl⟩ <;> rfl
theorem okS.no {o : Option SV} (h : okS o) : noT o = true := by
  rcases h with rfl | ⟨d, rfl⟩ <;> rfl
theorem LN_isTy (p : List Nat) : isTy .list (LN p) = true := rfl
theorem asg_freLN (p : List Nat) : asgR true (.fresh (LN p)) = some (.ow (LN p)) := rfl
theorem LN_nil : D.lst [] = LN [] := rfl
theorem eqvAll_iN : ∀ p q : List Nat, PyData.eqvAll (toPys (p.map iN)) (toPys (q.map iN)) = decide (p = q)
  | [], [] => by simp [toPys, PyData.eqvAll]
  | [], _ :: _ => by simp [toPys, PyData.eqvAll]
  | _ :: _, [] => by simp [toPys, PyData.eqvAll]
  | a :: p, b :: q => by
    rw [List.map_cons, List.map_cons, toPys, toPys, PyData.eqvAll, eqvAll_iN p q]
    have h : PyData.eqv (toPy (iN a)) (toPy (iN b)) = decide (a = b) := deq_iN a b
    rw [h]
    by_cases h1 : a = b <;> by_cases h2 : p = q <;> simp [h1, h2]
theorem deq_LN (p q : List Nat) : deq (LN p) (LN q) = decide (p = q) := by
  unfold deq LN
  rw [toPy, toPy, PyData.eqv]
  exact eqvAll_iN p q
theorem deq_TN (p q : List Nat) : deq (TN p) (TN q) = decide (p = q) := by
  unfold deq TN
  rw [toPy, toPy, PyData.eqv]
  exact eqvAll_iN p q
theorem okD_iN (i : Nat) : okD 0 (iN i) := okD_int _
theorem okD_LN (p : List Nat) : okD 1 (LN p) := okD_lst fun d hd => by
  obtain ⟨i, _, rfl⟩ := List.mem_map.mp hd
  exact okD_iN i
theorem okD_TN (p : List Nat) : okD 1 (TN p) := okD_tup fun d hd => by
  obtain ⟨i, _, rfl⟩ := List.mem_map.mp hd
  exact okD_iN i
theorem gNe_LN (p q : List Nat) : gNe (LN p) (LN q) = some (.val (.bl (!decide (p = q)))) := by
  unfold gNe
  rw [if_pos ⟨(okD_LN p).shp, (okD_LN q).shp⟩, deq_LN]
theorem gEq_LN (p q : List Nat) : gEq (LN p) (LN q) = some (.val (.bl (decide (p = q)))) := by
  unfold gEq
  rw [if_pos ⟨(okD_LN p).shp, (okD_LN q).shp⟩, deq_LN]
theorem intsD_iN (p : List Nat) : intsD (p.map iN) = some (p.map fun i : Nat => (i : Int)) := by
  have := intsD_map (p.map fun i : Nat => (i : Int))
  rw [List.map_map] at this
  exact this
theorem range_le (n : Nat) : ((List.range n).map fun i : Nat => (i : Int)).Pairwise (· ≤ ·) := by
  rw [List.pairwise_map]
  exact (List.pairwise_lt_range (n := n)).imp fun h => by omega
/-! ### dicts from numbers -/
def HDf {α : Type} (f : α → D) (kv : List (Nat × α)) : D := .dK (kv.map fun e => (.inl (e.1 : Int), f e.2))
theorem inl_iff (a b : Nat) : ((.inl (a : Int) : Key) = .inl (b : Int)) ↔ a = b := by
  constructor
  · intro h
    have := Sum.inl.inj h
    omega
  · intro h; rw [h]
section
variable {α : Type} (f : α → D)
theorem val_HD (kv : List (Nat × α)) (k : Nat) : valD (kv.map fun e : Nat × α => ((.inl (e.1 : Int) : Key), f e.2)) (.inl (k : Int)) = (val kv k).map f := by
  unfold valD
  induction kv with
  | nil => rfl
  | cons e kv ih =>
    rw [List.map_cons, val_cons]
    by_cases h : e.1 = k
    · rw [List.find?_cons_of_pos (by exact decide_eq_true ((inl_iff _ _).mpr h)), if_pos h]
      rfl
    · rw [List.find?_cons_of_neg (by exact fun z => h ((inl_iff _ _).mp (of_decide_eq_true z))), if_neg h]
      exact ih
theorem put_HD (kv : List (Nat × α)) (k : Nat) (v : α) : putD (kv.map fun e : Nat × α => ((.inl (e.1 : Int) : Key), f e.2)) (.inl (k : Int)) (f v) = (put kv k v).map fun e : Nat × α => ((.inl (e.1 : Int) : Key), f e.2) := by
  unfold putD put
  have ha : ((kv.map fun e : Nat × α => ((.inl (e.1 : Int) : Key), f e.2)).any fun e => decide (e.1 = .inl (k : Int))) = kv.any fun e => decide (e.1 = k) := by
    rw [List.any_map]
    congr 1
    funext e
    show decide ((.inl (e.1 : Int) : Key) = .inl (k : Int)) = decide (e.1 = k)
    rw [decide_eq_decide]
    exact inl_iff _ _
  rw [ha]
  split
  · rw [List.map_map, List.map_map]
    refine List.map_congr_left fun e _ => ?_
    show (if (.inl (e.1 : Int) : Key) = .inl (k : Int) then ((.inl (e.1 : Int) : Key), f v) else (.inl (e.1 : Int), f e.2)) = _
    by_cases h : e.1 = k
    · rw [if_pos ((inl_iff _ _).mpr h)]
      show _ = ((.inl (((if e.1 = k then (e.1, v) else e).1 : Nat) : Int) : Key), f (if e.1 = k then (e.1, v) else e).2)
      rw [if_pos h]
    · rw [if_neg (fun z => h ((inl_iff _ _).mp z))]
      show _ = ((.inl (((if e.1 = k then (e.1, v) else e).1 : Nat) : Int) : Key), f (if e.1 = k then (e.1, v) else e).2)
      rw [if_neg h]
  · rw [List.map_append]; rfl
theorem gNotIn_HD (kv : List (Nat × α)) (k : Nat) : gNotIn (iN k) (HDf f kv) = some (.val (.bl (!(val kv k).isSome))) := by
  have h : isIn (iN k) (HDf f kv) = some (val kv k).isSome := by
    unfold isIn HDf dget keyD iN
    simp only
    have := val_HD f kv k
    rw [this, Option.isSome_map]
  unfold gNotIn
  rw [h]
  rfl
theorem gIn_HD (kv : List (Nat × α)) (k : Nat) : gIn (iN k) (HDf f kv) = some (.val (.bl ((val kv k).isSome))) := by
  have h : isIn (iN k) (HDf f kv) = some (val kv k).isSome := by
    unfold isIn HDf dget keyD iN
    simp only
    have := val_HD f kv k
    rw [this, Option.isSome_map]
  unfold gIn
  rw [h]
  rfl
theorem gIx_HD {kv : List (Nat × α)} {k : Nat} {c : α} (h : val kv k = some c) : gIx (HDf f kv) (iN k) = some (.val (f c)) := by
  have h2 := val_HD f kv k
  rw [h] at h2
  unfold gIx HDf dget keyD iN
  simp only
  rw [h2]
  rfl
theorem putAt_HD {kv : List (Nat × α)} (k : Nat) (v : α) (h : kv.length ≤ 1000) : L3.putAt (HDf f kv) (iN k) (f v) = some (HDf f (put kv k v)) := by
  have h2 := put_HD f kv k v
  unfold L3.putAt HDf keyD iN
  simp only
  rw [if_pos (by rw [List.length_map]; exact sz1000 h), h2]
theorem HD_nil : D.dK [] = HDf f [] := (rfl)
theorem asg_freHD (kv : List (Nat × α)) : asgR true (.fresh (HDf f kv)) = some (.ow (HDf f kv)) := (rfl)
theorem gLen_HD (kv : List (Nat × α)) : gLen [HDf f kv] = some (.val (iN kv.length)) := by
  unfold HDf
  rw [gLen_dK, List.length_map]
  rfl
end
end L3

namespace K15
open PySem L2 L3
instance : Md := ⟨false⟩
def d_part : M Fl :=
    (fSeq (fPar [(2, false), (3, false)] (fCons (fCB gAbs (fCons (fVar 0) fNil)) (fCons (fCB gAbs (fCons (fVar 1) fNil)) fNil)))
    (fSeq (fWhile (fTest (fBin gNe (fVar 3) (fC (.int 0)))) (fPar [(2, false), (3, false)] (fCons (fVar 3) (fCons (fBin gMod (fVar 2) (fVar 3)) fNil))) 1000000000)
    (fSeq (fIfS (fTest (fBin gLt (fVar 1) (fC (.int 0)))) (fPar [(2, false)] (fCons (fNeg (fVar 2)) fNil)) fNext)
    (fRet (fTup (fCons (fBin gDiv (fVar 0) (fVar 2)) (fCons (fBin gDiv (fVar 1) (fVar 2)) fNil)))))))
def g_part : GD := mkG 4 [] d_part
def d_check_fades : M Fl :=
    (fFor (fItE (fVar 0)) (fTgT 2 (fTgC (fTg 1) (fTgC (fTgT 3 (fTgC (fTg 2) (fTgC (fTg 3) (fTgC (fTg 4) fTgN)))) fTgN))) (fSeq (fIfS (fOr (fTest (fBin gLt (fVar 2) (fC (.int 0)))) (fOr (fTest (fBin gLt (fVar 3) (fC (.int 0)))) (fNot (fTest (fChain gLe gLe (fC (.int 0)) (fVar 4) (fC (.int 100))))))) (fRaise "BadTable") fNext)
    (fIfS (fAnd (fTest (fBin gGt (fVar 1) (fC (.int 0)))) (fTest (fBin gGt (fBin gAdd (fBin gIx (fBin gIx (fVar 0) (fBin gSub (fVar 1) (fC (.int 1)))) (fC (.int 0))) (fBin gIx (fBin gIx (fVar 0) (fBin gSub (fVar 1) (fC (.int 1)))) (fC (.int 1)))) (fVar 2)))) (fRaise "BadTable") fNext)))
def g_check_fades : GD := mkG 5 [] d_check_fades
def d_level_at : M Fl :=
    (fSeq (fDrop (fCall [] 1 g_check_fades (fCons (fVal (fVar 0)) fNil)))
    (fSeq (fPar [(2, false)] (fCons (fC (.int 0)) fNil))
    (fSeq (fFor (fItL (fVar 0)) (fTgT 3 (fTgC (fTg 3) (fTgC (fTg 4) (fTgC (fTg 5) fTgN)))) (fSeq (fIfS (fTest (fBin gLt (fVar 1) (fVar 3))) (M.pure .brk) fNext)
    (fSeq (fIfS (fTest (fBin gLt (fVar 1) (fBin gAdd (fVar 3) (fVar 4)))) (fRet (fCall [] 2 g_part (fCons (fVal (fBin gAdd (fBin gMul (fVar 2) (fVar 4)) (fBin gMul (fBin gSub (fVar 5) (fVar 2)) (fBin gSub (fVar 1) (fVar 3))))) (fCons (fVal (fVar 4)) fNil)))) fNext)
    (fPar [(2, false)] (fCons (fVar 5) fNil)))))
    (fRet (fTup (fCons (fVar 2) (fCons (fC (.int 1)) fNil)))))))
def g_level_at : GD := mkG 6 [] d_level_at
def d_highest : M Fl :=
    (fSeq (fPar [(2, false)] (fCons (fTup (fCons (fC (.int 0)) (fCons (fC (.int 1)) fNil))) fNil))
    (fSeq (fFor (fItL (fVar 0)) (fTg 3) (fSeq (fPar [(4, false)] (fCons (fCall [] 2 g_level_at (fCons (fVal (fVar 3)) (fCons (fVal (fVar 1)) fNil))) fNil))
    (fIfS (fTest (fBin gGt (fBin gMul (fBin gIx (fVar 4) (fC (.int 0))) (fBin gIx (fVar 2) (fC (.int 1)))) (fBin gMul (fBin gIx (fVar 2) (fC (.int 0))) (fBin gIx (fVar 4) (fC (.int 1)))))) (fPar [(2, false)] (fCons (fVar 4) fNil)) fNext)))
    (fRet (fVar 2))))
def g_highest : GD := mkG 5 [] d_highest
def d_light : M Fl :=
    (fSeq (fDrop (fCall [] 1 g_check_fades (fCons (fVal (fVar 0)) fNil)))
    (fSeq (fPar [(2, false), (3, false), (4, false), (5, false)] (fCons (fC (.int 0)) (fCons (fC (.int 1)) (fCons (fC (.int 0)) (fCons (fC (.int 0)) fNil)))))
    (fSeq (fFor (fItL (fVar 0)) (fTgT 3 (fTgC (fTg 6) (fTgC (fTg 7) (fTgC (fTg 8) fTgN)))) (fSeq (fIfS (fTest (fBin gGe (fVar 6) (fVar 1))) (M.pure .brk) fNext)
    (fSeq (fAug 2 (fun i j => i + j) (fBin gMul (fBin gMul (fVar 4) (fBin gSub (fVar 6) (fVar 5))) (fVar 3)))
    (fSeq (fPar [(9, false)] (fCons (fCB gMin (fCons (fVar 1) (fCons (fBin gAdd (fVar 6) (fVar 7)) fNil))) fNil))
    (fSeq (fPar [(10, false)] (fCons (fIf (fTest (fBin gLt (fVar 9) (fBin gAdd (fVar 6) (fVar 7)))) (fCall [] 2 g_level_at (fCons (fVal (fVar 0)) (fCons (fVal (fVar 9)) fNil))) (fTup (fCons (fVar 8) (fCons (fC (.int 1)) fNil)))) fNil))
    (fSeq (fPar [(11, false)] (fCons (fBin gSub (fVar 9) (fVar 6)) fNil))
    (fSeq (fPar [(2, false), (3, false)] (fCons (fBin gAdd (fBin gMul (fBin gMul (fVar 2) (fC (.int 2))) (fBin gIx (fVar 10) (fC (.int 1)))) (fBin gMul (fBin gMul (fVar 11) (fBin gAdd (fBin gMul (fVar 4) (fBin gIx (fVar 10) (fC (.int 1)))) (fBin gIx (fVar 10) (fC (.int 0))))) (fVar 3))) (fCons (fBin gMul (fBin gMul (fVar 3) (fC (.int 2))) (fBin gIx (fVar 10) (fC (.int 1)))) fNil)))
    (fPar [(4, false), (5, false)] (fCons (fVar 8) (fCons (fVar 9) fNil))))))))))
    (fSeq (fIfS (fTest (fBin gLt (fVar 5) (fVar 1))) (fAug 2 (fun i j => i + j) (fBin gMul (fBin gMul (fVar 4) (fBin gSub (fVar 1) (fVar 5))) (fVar 3))) fNext)
    (fRet (fCall [] 2 g_part (fCons (fVal (fVar 2)) (fCons (fVal (fVar 3)) fNil))))))))
def g_light : GD := mkG 12 [] d_light
def d_changes : M Fl :=
    (fSeq (fPar [(1, true), (2, false)] (fCons (fLst fNil) (fCons (fC (.int 0)) fNil)))
    (fSeq (fFor (fItL (fVar 0)) (fTgT 3 (fTgC (fTg 3) (fTgC (fTg 4) (fTgC (fTg 5) fTgN)))) (fSeq (fIfS (fTest (fBin gNe (fVar 5) (fVar 2))) (fDrop (fMut .list gExtend (fVar 1) (fCons (fLst (fCons (fVar 3) (fCons (fBin gAdd (fVar 3) (fVar 4)) fNil))) fNil))) fNext)
    (fPar [(2, false)] (fCons (fVar 5) fNil))))
    (fShare 1 (fRet (fCB gTupleOf (fCons (fSortedSc (fSc intC (fItL (fVar 1)) [6] (fTg 6) (M.pure true) (fVar 6))) fNil))))))
def g_changes : GD := mkG 7 [] d_changes
def d_law_roll : M Fl :=
    (fSeq (fIfS (fOr (fTest (fBin gEq (fBin gIx (fVar 0) (fC (.int 2))) (fC (.int 2)))) (fAnd (fTest (fBin gEq (fBin gIx (fVar 0) (fC (.int 2))) (fC (.int 1)))) (fTest (fBin gGt (fBin gIx (fVar 0) (fC (.int 0))) (fC (.int 0)))))) (fSeq (fPar [(2, false)] (fCons (fBin gMod (fCB gInt (fCons (fBin gIx (fVar 0) (fC (.int 0))) fNil)) (fVar 1)) fNil))
    (fSeq (fStore (fBin gDiv (fBin gIx (fVar 0) (fC (.int 0))) (fVar 1)) (fVar 0) (fC (.int 0)))
    (fRet (fVar 2)))) fNext)
    (fSeq (fStore (fC (.int 0)) (fVar 0) (fC (.int 2)))
    (fSeq (fStore (fBin gMod (fCB gInt (fCons (fBin gAdd (fBin gAdd (fBin gMul (fBin gIx (fVar 0) (fC (.int 0))) (fC (.int 48271))) (fBin gMul (fBin gIx (fVar 0) (fC (.int 1))) (fC (.int 69621)))) (fC (.int 11))) fNil)) (fC (.int 2147483647))) (fVar 0) (fC (.int 0)))
    (fSeq (fStore (fBin gAdd (fBin gIx (fVar 0) (fC (.int 1))) (fC (.int 1))) (fVar 0) (fC (.int 1)))
    (fRet (fBin gMod (fCB gInt (fCons (fBin gAdd (fBin gDiv (fBin gIx (fVar 0) (fC (.int 0))) (fC (.int 7))) (fBin gIx (fVar 0) (fC (.int 0)))) fNil)) (fVar 1)))))))
def g_law_roll : GD := mkG 3 [0] d_law_roll
def d_law_fades : M Fl :=
    (fSeq (fPar [(1, true), (2, false)] (fCons (fLst fNil) (fCons (fC (.int 0)) fNil)))
    (fSeq (fFor (fItR1 (fCons (fCall [0] 2 g_law_roll (fCons (fVar 0) (fCons (fVal (fC (.int 5))) fNil))) fNil)) (fTg 3) (fSeq (fPar [(2, false)] (fCons (fBin gAdd (fVar 2) (fCall [0] 2 g_law_roll (fCons (fVar 0) (fCons (fVal (fC (.int 5))) fNil)))) fNil))
    (fSeq (fPar [(4, false)] (fCons (fCall [0] 2 g_law_roll (fCons (fVar 0) (fCons (fVal (fC (.int 5))) fNil))) fNil))
    (fSeq (fDrop (fMut .list gAppend (fVar 1) (fCons (fTup (fCons (fVar 2) (fCons (fVar 4) (fCons (fBin gMul (fC (.int 10)) (fCall [0] 2 g_law_roll (fCons (fVar 0) (fCons (fVal (fC (.int 11))) fNil)))) fNil)))) fNil)))
    (fPar [(2, false)] (fCons (fBin gAdd (fVar 2) (fVar 4)) fNil))))))
    (fRet (fVar 1))))
def g_law_fades : GD := mkG 5 [0] d_law_fades
def d_law_level : M Fl :=
    (fSeq (fPar [(2, false)] (fCons (fC (.int 0)) fNil))
    (fSeq (fFor (fItL (fVar 0)) (fTgT 3 (fTgC (fTg 3) (fTgC (fTg 4) (fTgC (fTg 5) fTgN)))) (fIfS (fTest (fBin gLe (fVar 3) (fVar 1))) (fSeq (fPar [(6, false)] (fCons (fCB gMin (fCons (fBin gSub (fVar 1) (fVar 3)) (fCons (fVar 4) fNil))) fNil))
    (fPar [(2, false)] (fCons (fIf (fOr (fTest (fBin gEq (fVar 4) (fC (.int 0)))) (fTest (fBin gEq (fVar 6) (fVar 4)))) (fBin gMul (fC (.int 60)) (fVar 5)) (fBin gAdd (fVar 2) (fBin gDiv (fBin gMul (fBin gSub (fBin gMul (fC (.int 60)) (fVar 5)) (fVar 2)) (fVar 6)) (fVar 4)))) fNil))) fNext))
    (fRet (fVar 2))))
def g_law_level : GD := mkG 7 [] d_law_level
def d_law : M Fl :=
    (fSeq (fPar [(2, false), (3, false), (4, false)] (fCons (fCall [0] 1 g_law_fades (fCons (fVar 1) fNil)) (fCons (fCall [0] 1 g_law_fades (fCons (fVar 1) fNil)) (fCons (fCall [0] 2 g_law_roll (fCons (fVar 1) (fCons (fVal (fC (.int 30))) fNil))) fNil))))
    (fSeq (fFor (fItR1 (fCons (fC (.int 30)) fNil)) (fTg 5) (fSeq (fPar [(6, false), (7, false)] (fCons (fCall [] 2 g_law_level (fCons (fVal (fVar 2)) (fCons (fVal (fVar 5)) fNil))) (fCons (fCall [] 2 g_law_level (fCons (fVal (fVar 3)) (fCons (fVal (fVar 5)) fNil))) fNil)))
    (fIfS (fOr (fTest (fBin gNe (fCall [] 2 g_level_at (fCons (fVal (fVar 2)) (fCons (fVal (fVar 5)) fNil))) (fCall [] 2 g_part (fCons (fVal (fVar 6)) (fCons (fVal (fC (.int 60))) fNil))))) (fTest (fBin gNe (fCall [] 2 g_highest (fCons (fVal (fLst (fCons (fVar 2) (fCons (fVar 3) fNil)))) (fCons (fVal (fVar 5)) fNil))) (fCall [] 2 g_part (fCons (fVal (fCB gMax (fCons (fVar 6) (fCons (fVar 7) fNil)))) (fCons (fVal (fC (.int 60))) fNil)))))) (fRet (fC (.bl false))) fNext)))
    (fSeq (fPar [(8, false), (9, false), (10, false)] (fCons (fC (.int 0)) (fCons (fC (.int 0)) (fCons (fC (.int 0)) fNil))))
    (fSeq (fFor (fItL (fVar 2)) (fTgT 3 (fTgC (fTg 11) (fTgC (fTg 12) (fTgC (fTg 6) fTgN)))) (fSeq (fPar [(13, false)] (fCons (fCB gMin (fCons (fVar 4) (fCons (fVar 11) fNil))) fNil))
    (fSeq (fPar [(8, false)] (fCons (fBin gAdd (fVar 8) (fBin gMul (fBin gMul (fC (.int 120)) (fVar 9)) (fCB gMax (fCons (fC (.int 0)) (fCons (fBin gSub (fVar 13) (fVar 10)) fNil))))) fNil))
    (fSeq (fPar [(10, false), (14, false)] (fCons (fCB gMax (fCons (fVar 10) (fCons (fVar 13) fNil))) (fCons (fCB gMin (fCons (fVar 4) (fCons (fBin gAdd (fVar 11) (fVar 12)) fNil))) fNil)))
    (fIfS (fTest (fBin gLt (fVar 11) (fVar 4))) (fSeq (fPar [(15, false)] (fCons (fIf (fTest (fBin gLt (fVar 14) (fBin gAdd (fVar 11) (fVar 12)))) (fCall [] 2 g_law_level (fCons (fVal (fVar 2)) (fCons (fVal (fVar 14)) fNil))) (fBin gMul (fC (.int 60)) (fVar 6))) fNil))
    (fSeq (fPar [(8, false)] (fCons (fBin gAdd (fVar 8) (fBin gMul (fBin gAdd (fBin gMul (fC (.int 60)) (fVar 9)) (fVar 15)) (fBin gSub (fVar 14) (fVar 11)))) fNil))
    (fPar [(9, false), (10, false)] (fCons (fVar 6) (fCons (fVar 14) fNil))))) fNext)))))
    (fSeq (fPar [(8, false)] (fCons (fBin gAdd (fVar 8) (fBin gMul (fBin gMul (fC (.int 120)) (fVar 9)) (fCB gMax (fCons (fC (.int 0)) (fCons (fBin gSub (fVar 4) (fVar 10)) fNil))))) fNil))
    (fSeq (fIfS (fTest (fBin gNe (fCall [] 2 g_light (fCons (fVal (fVar 2)) (fCons (fVal (fVar 4)) fNil))) (fCall [] 2 g_part (fCons (fVal (fVar 8)) (fCons (fVal (fC (.int 120))) fNil))))) (fRet (fC (.bl false))) fNext)
    (fSeq (fPar [(16, false), (9, false)] (fCons (fLst fNil) (fCons (fC (.int 0)) fNil)))
    (fSeq (fFor (fItL (fVar 2)) (fTgT 3 (fTgC (fTg 11) (fTgC (fTg 12) (fTgC (fTg 6) fTgN)))) (fSeq (fIfS (fTest (fBin gNe (fVar 6) (fVar 9))) (fPar [(16, false)] (fCons (fBin gAdd (fVar 16) (fLst (fCons (fVar 11) (fCons (fBin gAdd (fVar 11) (fVar 12)) fNil)))) fNil)) fNext)
    (fPar [(9, false)] (fCons (fVar 6) fNil))))
    (fSeq (fIfS (fTest (fBin gNe (fCB gListOf (fCons (fCall [] 1 g_changes (fCons (fVal (fVar 2)) fNil)) fNil)) (fCB gSortedI (fCons (fLc (fItR1 (fCons (fCB gLen (fCons (fVar 16) fNil)) fNil)) [17] (fTg 17) (fTest (fBin gNotIn (fBin gIx (fVar 16) (fVar 17)) (fSl (fVar 16) (M.pure none) (fPart (fVar 17))))) (fBin gIx (fVar 16) (fVar 17))) fNil)))) (fRet (fC (.bl false))) fNext)
    (fSeq (fIfS (fTest (fBin gNe (fTold [([], ["BadTable"], "no way"), (["BadTable"], [], "table"), ([], ["BadTable"], "paper")] (fCall [] 1 g_check_fades (fCons (fVal (fLst (fCons (fTup (fCons (fC (.int 0)) (fCons (fC (.int 5)) (fCons (fC (.int 10)) fNil)))) (fCons (fTup (fCons (fC (.int 4)) (fCons (fC (.int 1)) (fCons (fC (.int 0)) fNil)))) fNil)))) fNil))) (fC (.str "table")))) (fRet (fC (.bl false))) fNext)
    (fIfS (fTest (fBin gNe (fTold [([], ["BadTable"], "no way"), (["BadTable"], [], "table"), ([], ["BadTable"], "paper")] (fCall [] 1 g_check_fades (fCons (fVal (fLst (fCons (fTup (fCons (fC (.int 0)) (fCons (fC (.int 5)) (fCons (fC (.int 101)) fNil)))) fNil))) fNil))) (fC (.str "table")))) (fRet (fC (.bl false))) fNext)))))))))))
end K15

namespace K15
open PySem L2 L3
def topS (i : Nat) : Stmt := PySem.Challenge.pw_theatre_k15_lights_that_fade.main.body.getD i (.Pass ⟨0, 0, 0, 0⟩)
abbrev s_part : Stmt := topS 6
theorem sc_part : FnScope ["over", "under", "one", "other"] ["over", "under"] (defScope s_part) := ⟨rfl, rfl, rfl, by decide +kernel, rfl, by decide +kernel, by decide +kernel⟩
abbrev s_check_fades : Stmt := topS 7
theorem sc_check_fades : FnScope ["fades", "k", "time", "lasts", "level"] ["fades"] (defScope s_check_fades) := ⟨rfl, rfl, rfl, by decide +kernel, rfl, by decide +kernel, by decide +kernel⟩
abbrev s_level_at : Stmt := topS 8
theorem sc_level_at : FnScope ["fades", "time", "here", "begin", "lasts", "level"] ["fades", "time"] (defScope s_level_at) := ⟨rfl, rfl, rfl, by decide +kernel, rfl, by decide +kernel, by decide +kernel⟩
abbrev s_highest : Stmt := topS 9
theorem sc_highest : FnScope ["many", "time", "best", "fades", "here"] ["many", "time"] (defScope s_highest) := ⟨rfl, rfl, rfl, by decide +kernel, rfl, by decide +kernel, by decide +kernel⟩
abbrev s_light : Stmt := topS 10
theorem sc_light : FnScope ["fades", "until", "over", "under", "here", "now", "begin", "lasts", "level", "stop", "end", "width"] ["fades", "until"] (defScope s_light) := ⟨rfl, rfl, rfl, by decide +kernel, rfl, by decide +kernel, by decide +kernel⟩
abbrev s_changes : Stmt := topS 11
theorem sc_changes : FnScope ["fades", "found", "here", "begin", "lasts", "level", "one"] ["fades"] (defScope s_changes) := ⟨rfl, rfl, rfl, by decide +kernel, rfl, by decide +kernel, by decide +kernel⟩
abbrev s_law_dice : Stmt := topS 13
theorem sc_law_dice : FnScope ["cell"] ["cell"] (defScope s_law_dice) := ⟨rfl, rfl, rfl, by decide +kernel, rfl, by decide +kernel, by decide +kernel⟩
abbrev s_law_roll : Stmt := topS 14
theorem sc_law_roll : FnScope ["dice", "many", "found"] ["dice", "many"] (defScope s_law_roll) := ⟨rfl, rfl, rfl, by decide +kernel, rfl, by decide +kernel, by decide +kernel⟩
abbrev s_law_rounds : Stmt := topS 15
theorem sc_law_rounds : FnScope ["script", "most", "cells", "cell"] ["script", "most"] (defScope s_law_rounds) := ⟨rfl, rfl, rfl, by decide +kernel, rfl, by decide +kernel, by decide +kernel⟩
abbrev s_law_told : Stmt := topS 16
theorem sc_law_told : FnScope ["what"] ["what"] (defScope s_law_told) := ⟨rfl, rfl, rfl, by decide +kernel, rfl, by decide +kernel, by decide +kernel⟩
abbrev s_law_fades : Stmt := topS 17
theorem sc_law_fades : FnScope ["dice", "found", "time", "k", "lasts"] ["dice"] (defScope s_law_fades) := ⟨rfl, rfl, rfl, by decide +kernel, rfl, by decide +kernel, by decide +kernel⟩
abbrev s_law_level : Stmt := topS 18
theorem sc_law_level : FnScope ["fades", "time", "here", "begin", "lasts", "level", "gone"] ["fades", "time"] (defScope s_law_level) := ⟨rfl, rfl, rfl, by decide +kernel, rfl, by decide +kernel, by decide +kernel⟩
abbrev s_law : Stmt := topS 19
def nm_law : Nat → Nat → Str := fun _ _ => "law.<locals>." ++ "<lambda>"
theorem sc_law : FnScope ["script", "dice", "one", "two", "until", "time", "level", "other", "whole", "here", "now", "begin", "lasts", "stop", "last", "end", "due", "k"] ["script"] (defScope s_law) := ⟨rfl, rfl, rfl, by decide +kernel, rfl, by decide +kernel, by decide +kernel⟩
structure Tx [tb : Tb] (K : PySem.W.Frag) (mg : Str → Option Value) (base : Heap) (cc_law P_law a_part a_check_fades a_level_at a_highest a_light a_changes a_law_dice a_law_roll a_law_rounds a_law_told a_law_fades a_law_level a_law c_BadPaper c_BadTable c_NoWay : Addr) (fd_part fd_check_fades fd_level_at fd_highest fd_light fd_changes fd_law_dice fd_law_roll fd_law_rounds fd_law_told fd_law_fades fd_law_level fd_law : FuncData) : Prop where
  tb_law : LamX.TabB base mg cc_law P_law
  cf_law : fd_law.code = .ref cc_law
  tm_law : (P_law, some nm_law) ∈ tb.T
  tu_law : ∀ p ∈ tb.T, p.1 = P_law → ∀ g, p.2 = some g → g = nm_law
  abs : mg "abs" = none
  enumerate : mg "enumerate" = none
  int : mg "int" = none
  len : mg "len" = none
  list : mg "list" = none
  max : mg "max" = none
  min : mg "min" = none
  range : mg "range" = none
  sorted : mg "sorted" = none
  tuple : mg "tuple" = none
  F_part : Fun K "part" "part" s_part a_part fd_part
  m_part : mg "part" = some (.ref a_part)
  k_part : PySem.W.keepIn K (.ref a_part) = true
  b_part : Binds K fd_part ["over", "under"] []
  F_check_fades : Fun K "check_fades" "check_fades" s_check_fades a_check_fades fd_check_fades
  m_check_fades : mg "check_fades" = some (.ref a_check_fades)
  k_check_fades : PySem.W.keepIn K (.ref a_check_fades) = true
  b_check_fades : Binds K fd_check_fades ["fades"] []
  F_level_at : Fun K "level_at" "level_at" s_level_at a_level_at fd_level_at
  m_level_at : mg "level_at" = some (.ref a_level_at)
  k_level_at : PySem.W.keepIn K (.ref a_level_at) = true
  b_level_at : Binds K fd_level_at ["fades", "time"] []
  F_highest : Fun K "highest" "highest" s_highest a_highest fd_highest
  m_highest : mg "highest" = some (.ref a_highest)
  k_highest : PySem.W.keepIn K (.ref a_highest) = true
  b_highest : Binds K fd_highest ["many", "time"] []
  F_light : Fun K "light" "light" s_light a_light fd_light
  m_light : mg "light" = some (.ref a_light)
  k_light : PySem.W.keepIn K (.ref a_light) = true
  b_light : Binds K fd_light ["fades", "until"] []
  F_changes : Fun K "changes" "changes" s_changes a_changes fd_changes
  m_changes : mg "changes" = some (.ref a_changes)
  k_changes : PySem.W.keepIn K (.ref a_changes) = true
  b_changes : Binds K fd_changes ["fades"] []
  F_law_dice : Fun K "_law_dice" "_law_dice" s_law_dice a_law_dice fd_law_dice
  m_law_dice : mg "_law_dice" = some (.ref a_law_dice)
  k_law_dice : PySem.W.keepIn K (.ref a_law_dice) = true
  b_law_dice : Binds K fd_law_dice ["cell"] []
  F_law_roll : Fun K "_law_roll" "_law_roll" s_law_roll a_law_roll fd_law_roll
  m_law_roll : mg "_law_roll" = some (.ref a_law_roll)
  k_law_roll : PySem.W.keepIn K (.ref a_law_roll) = true
  b_law_roll : Binds K fd_law_roll ["dice", "many"] []
  F_law_rounds : Fun K "_law_rounds" "_law_rounds" s_law_rounds a_law_rounds fd_law_rounds
  m_law_rounds : mg "_law_rounds" = some (.ref a_law_rounds)
  k_law_rounds : PySem.W.keepIn K (.ref a_law_rounds) = true
  b_law_rounds : Binds K fd_law_rounds ["script", "most"] []
  F_law_told : Fun K "_law_told" "_law_told" s_law_told a_law_told fd_law_told
  m_law_told : mg "_law_told" = some (.ref a_law_told)
  k_law_told : PySem.W.keepIn K (.ref a_law_told) = true
  b_law_told : Binds K fd_law_told ["what"] []
  F_law_fades : Fun K "_law_fades" "_law_fades" s_law_fades a_law_fades fd_law_fades
  m_law_fades : mg "_law_fades" = some (.ref a_law_fades)
  k_law_fades : PySem.W.keepIn K (.ref a_law_fades) = true
  b_law_fades : Binds K fd_law_fades ["dice"] []
  F_law_level : Fun K "_law_level" "_law_level" s_law_level a_law_level fd_law_level
  m_law_level : mg "_law_level" = some (.ref a_law_level)
  k_law_level : PySem.W.keepIn K (.ref a_law_level) = true
  b_law_level : Binds K fd_law_level ["fades", "time"] []
  F_law : Fun K "law" "law" s_law a_law fd_law
  m_law : mg "law" = some (.ref a_law)
  k_law : PySem.W.keepIn K (.ref a_law) = true
  b_law : Binds K fd_law ["script"] []
  yesNoWay : ∀ n ∈ ([] : List Str), ∀ cls, mg n = some cls → PySem.W.exmOne K cls (.ref c_NoWay) = some true
  noNoWay : ∀ n ∈ (["BadTable"] : List Str), ∀ cls, mg n = some cls → PySem.W.exmOne K cls (.ref c_NoWay) = some false
  yesBadTable : ∀ n ∈ (["BadTable"] : List Str), ∀ cls, mg n = some cls → PySem.W.exmOne K cls (.ref c_BadTable) = some true
  noBadTable : ∀ n ∈ ([] : List Str), ∀ cls, mg n = some cls → PySem.W.exmOne K cls (.ref c_BadTable) = some false
  yesBadPaper : ∀ n ∈ ([] : List Str), ∀ cls, mg n = some cls → PySem.W.exmOne K cls (.ref c_BadPaper) = some true
  noBadPaper : ∀ n ∈ (["BadTable"] : List Str), ∀ cls, mg n = some cls → PySem.W.exmOne K cls (.ref c_BadPaper) = some false
  gBadPaper : mg "BadPaper" = some (.ref c_BadPaper)
  gBadTable : mg "BadTable" = some (.ref c_BadTable)
  xBadTable : PySem.W.excIn K c_BadTable [.type "ValueError", .type "Exception", .type "BaseException", .type "object"] "ValueError.__new__" = true
  kBadTable : PySem.W.keepIn K (.ref c_BadTable) = true
  bBadTable : PySem.W.subIn K (.ref c_BadTable) (.type "BaseException") = some true
  tBadTable : PySem.W.typeIn K (.ref c_BadTable) = some (.type "type")
  yBadTable : ∀ n ∈ (["BadTable"] : List Str), ∀ cls, mg n = some cls → PySem.W.exmOne K cls (.ref c_BadTable) = some true
  gNoWay : mg "NoWay" = some (.ref c_NoWay)
section
variable [tb : Tb] {P : Program} {w : World} {K : PySem.W.Frag} {mg : Str → Option Value} {base : Heap} {cc_law P_law a_part a_check_fades a_level_at a_highest a_light a_changes a_law_dice a_law_roll a_law_rounds a_law_told a_law_fades a_law_level a_law c_BadPaper c_BadTable c_NoWay : Addr} {fd_part fd_check_fades fd_level_at fd_highest fd_light fd_changes fd_law_dice fd_law_roll fd_law_rounds fd_law_told fd_law_fades fd_law_level fd_law : FuncData}
theorem ok_law_dice (T : Tx K mg base cc_law P_law a_part a_check_fades a_level_at a_highest a_light a_changes a_law_dice a_law_roll a_law_rounds a_law_told a_law_fades a_law_level a_law c_BadPaper c_BadTable c_NoWay fd_part fd_check_fades fd_level_at fd_highest fd_light fd_changes fd_law_dice fd_law_roll fd_law_rounds fd_law_told fd_law_fades fd_law_level fd_law) : FnOk P w K mg base (L2.CX P w) 1 a_law_dice fd_law_dice ["cell"] spDice := by
  refine Fun.okX T.F_law_dice sc_law_dice (fun vs H Q E ⟨c, h, _⟩ => by rw [h]; rfl) fun cdv A outer s H vs Q E hr h => ?_
  obtain ⟨c, rfl, q⟩ := h
  refine ⟨_, pss_cons (ps_if (pt_chain op_lt op_lt (pe_op op_sub pe_int pe_int) (pv 0) pe_int) (pss_one (ps_ret (pe_lst (pa_cons (pe_callB call_abs (by rfl) T.abs bt_abs (pa_cons (pv 0) pa_nil)) (pa_cons pe_int (pa_cons pe_int pa_nil)))))) pss_nil)
    (pss_one (ps_ret (pe_lst (pa_cons (pv 0) (pa_cons (pe_op op_add pe_int (pe_op op_modN (pe_callTy call_int1 (by rfl) T.int bt_int (pa_cons (pv 0) pa_nil)) pe_int)) (pa_cons (pe_callTy call_int1 (by rfl) T.int bt_int (pa_cons (pe_cmpR op_ge (pv 0) (pe_op op_pow pe_int pe_int) (nomark _)) pa_nil)) pa_nil)))))), ?_⟩
  exact dice_read rfl fun p x y z hp => q p x y z hp
theorem ok_law_rounds (T : Tx K mg base cc_law P_law a_part a_check_fades a_level_at a_highest a_light a_changes a_law_dice a_law_roll a_law_rounds a_law_told a_law_fades a_law_level a_law c_BadPaper c_BadTable c_NoWay fd_part fd_check_fades fd_level_at fd_highest fd_light fd_changes fd_law_dice fd_law_roll fd_law_rounds fd_law_told fd_law_fades fd_law_level fd_law) (o_law_dice : FnOk P w K mg base (L2.CX P w) 1 a_law_dice fd_law_dice ["cell"] spDice) : FnOk P w K mg base (L2.CX P w) 2 a_law_rounds fd_law_rounds ["script", "most"] (spRounds K) := by
  refine Fun.okX T.F_law_rounds sc_law_rounds (fun vs H Q E ⟨a, ns, m, h, _⟩ => by rw [h]; rfl) fun cdv A outer s H vs Q E hr h => ?_
  obtain ⟨a, ns, m, rfl, hS, h63, q⟩ := h
  refine ⟨_, pss_cons (ps_set (i := 2) sc_law_rounds.nd rfl (Or.inl rfl) (pe_slice sl_list (pv 0) po_none (po_some (pv 1))))
    (pss_cons (ps_if (pt_cmpR (op_eqD (hu64 hr)) (pv 2) (pe_lst pa_nil) (nomark _)) (pss_one (ps_set (i := 2) sc_law_rounds.nd rfl (Or.inl rfl) (pe_lst (pa_cons pe_int pa_nil)))) pss_nil)
    (pss_one (ps_ret (pe_lc (own := [("cell", 3)]) (g := gName 3) (tt := tYes) rfl sc_law_rounds.nd (pi_list (pv 2)) (blkOk_by (N := ["script", "most", "cells", "cell"]) (sc := defScope s_law_rounds) (by decide +kernel)) (fun _ _ _ _ _ => pg_name (i := 3) sc_law_rounds.nd rfl (Or.inl rfl)) (fun _ _ _ _ _ => pts_nil)
      (fun _ _ _ _ _ => pe_callS o_law_dice (hr.mono (by omega)) (by rfl) T.m_law_dice T.k_law_dice T.b_law_dice (fun σ => passAt takes0 σ) (pa_cons (pv 3) pa_nil)))))), ?_⟩
  exact rounds_read rfl rfl rfl hS h63 q

theorem ok_part (T : Tx K mg base cc_law P_law a_part a_check_fades a_level_at a_highest a_light a_changes a_law_dice a_law_roll a_law_rounds a_law_told a_law_fades a_law_level a_law c_BadPaper c_BadTable c_NoWay fd_part fd_check_fades fd_level_at fd_highest fd_light fd_changes fd_law_dice fd_law_roll fd_law_rounds fd_law_told fd_law_fades fd_law_level fd_law)  : FnOk P w K mg base (L2.CX P w) 1 a_part fd_part ["over", "under"] (spD mg [] 2 g_part) :=
  fnD [] d_part T.F_part sc_part fun cdv A outer s H E hr => by
  have tk : Takes (cxOf (L2.CX P w) P w K mg base ["over", "under", "one", "other"] "part" (defScope s_part) a_part cdv A outer s H E) (fun c d _ H' => E c d H') := takes_of rfl rfl rfl rfl
  have hp : PassesOwn (model P w) (cxOf (L2.CX P w) P w K mg base ["over", "under", "one", "other"] "part" (defScope s_part) a_part cdv A outer s H E).A (cxOf (L2.CX P w) P w K mg base ["over", "under", "one", "other"] "part" (defScope s_part) a_part cdv A outer s H E).env (cxOf (L2.CX P w) P w K mg base ["over", "under", "one", "other"] "part" (defScope s_part) a_part cdv A outer s H E).xe := PassesOwn.leaving
  exact ⟨_, (exb_cons (ex_par2 (i := 2) (j := 3) false false rfl sc_part.nd rfl rfl (by decide) rfl rfl (evf_cons (ev_callB call_abs ad_abs (by rfl) T.abs bt_abs (eva_cons (ev_var 0) eva_nil)) (evf_cons (ev_callB call_abs ad_abs (by rfl) T.abs bt_abs (eva_cons (ev_var 1) eva_nil)) evf_nil)) (by rfl))
    (exb_cons (ex_while 1000000000 hp (ev_cmpT (op_neD (hu64 hr)) ad_ne (ev_var 3) ev_int (by rfl)) (exb_one (ex_par2 (i := 2) (j := 3) false false rfl sc_part.nd rfl rfl (by decide) rfl rfl (evf_cons (ev_var 3) (evf_cons (ev_bin op_modN ad_mod (ev_var 2) (ev_var 3)) evf_nil)) (by rfl))))
    (exb_cons (ex_if (ev_cmpT op_lt ad_lt (ev_var 1) ev_int (by rfl)) (exb_one (ex_set (i := 2) false sc_part.nd rfl (by first | exact Or.inl rfl | exact Or.inr rfl) (ev_neg (ev_var 2)))) exb_nil)
    (exb_one (ex_ret (ev_tup (eva_cons (ev_bin op_fdivN ad_div (ev_var 0) (ev_var 2)) (eva_cons (ev_bin op_fdivN ad_div (ev_var 1) (ev_var 2)) eva_nil))))))))⟩
theorem ok_check_fades (T : Tx K mg base cc_law P_law a_part a_check_fades a_level_at a_highest a_light a_changes a_law_dice a_law_roll a_law_rounds a_law_told a_law_fades a_law_level a_law c_BadPaper c_BadTable c_NoWay fd_part fd_check_fades fd_level_at fd_highest fd_light fd_changes fd_law_dice fd_law_roll fd_law_rounds fd_law_told fd_law_fades fd_law_level fd_law)  : FnOk P w K mg base (L2.CX P w) 1 a_check_fades fd_check_fades ["fades"] (spD mg [] 1 g_check_fades) :=
  fnD [] d_check_fades T.F_check_fades sc_check_fades fun cdv A outer s H E hr => by
  have tk : Takes (cxOf (L2.CX P w) P w K mg base ["fades", "k", "time", "lasts", "level"] "check_fades" (defScope s_check_fades) a_check_fades cdv A outer s H E) (fun c d _ H' => E c d H') := takes_of rfl rfl rfl rfl
  have hp : PassesOwn (model P w) (cxOf (L2.CX P w) P w K mg base ["fades", "k", "time", "lasts", "level"] "check_fades" (defScope s_check_fades) a_check_fades cdv A outer s H E).A (cxOf (L2.CX P w) P w K mg base ["fades", "k", "time", "lasts", "level"] "check_fades" (defScope s_check_fades) a_check_fades cdv A outer s H E).env (cxOf (L2.CX P w) P w K mg base ["fades", "k", "time", "lasts", "level"] "check_fades" (defScope s_check_fades) a_check_fades cdv A outer s H E).xe := PassesOwn.leaving
  exact ⟨_, (exb_one (ex_for hp rfl (evi_enum rfl (by rfl) T.enumerate (ev_var 0)) (exg_tupM (exgs_cons (exg_name (i := 1) sc_check_fades.nd rfl (by first | exact Or.inl rfl | exact Or.inr rfl)) (exgs_cons (exg_tupM (exgs_cons (exg_name (i := 2) sc_check_fades.nd rfl (by first | exact Or.inl rfl | exact Or.inr rfl)) (exgs_cons (exg_name (i := 3) sc_check_fades.nd rfl (by first | exact Or.inl rfl | exact Or.inr rfl)) (exgs_cons (exg_name (i := 4) sc_check_fades.nd rfl (by first | exact Or.inl rfl | exact Or.inr rfl)) exgs_nil (pgs_cons (pg_name (i := 4) sc_check_fades.nd rfl (by first | exact Or.inl rfl | exact Or.inr rfl)) pgs_nil)) (pgs_cons (pg_name (i := 3) sc_check_fades.nd rfl (by first | exact Or.inl rfl | exact Or.inr rfl)) (pgs_cons (pg_name (i := 4) sc_check_fades.nd rfl (by first | exact Or.inl rfl | exact Or.inr rfl)) pgs_nil))) (pgs_cons (pg_name (i := 2) sc_check_fades.nd rfl (by first | exact Or.inl rfl | exact Or.inr rfl)) (pgs_cons (pg_name (i := 3) sc_check_fades.nd rfl (by first | exact Or.inl rfl | exact Or.inr rfl)) (pgs_cons (pg_name (i := 4) sc_check_fades.nd rfl (by first | exact Or.inl rfl | exact Or.inr rfl)) pgs_nil)))) (pg_tup rfl (pgs_cons (pg_name (i := 2) sc_check_fades.nd rfl (by first | exact Or.inl rfl | exact Or.inr rfl)) (pgs_cons (pg_name (i := 3) sc_check_fades.nd rfl (by first | exact Or.inl rfl | exact Or.inr rfl)) (pgs_cons (pg_name (i := 4) sc_check_fades.nd rfl (by first | exact Or.inl rfl | exact Or.inr rfl)) pgs_nil))))) exgs_nil (pgs_cons (pg_tup rfl (pgs_cons (pg_name (i := 2) sc_check_fades.nd rfl (by first | exact Or.inl rfl | exact Or.inr rfl)) (pgs_cons (pg_name (i := 3) sc_check_fades.nd rfl (by first | exact Or.inl rfl | exact Or.inr rfl)) (pgs_cons (pg_name (i := 4) sc_check_fades.nd rfl (by first | exact Or.inl rfl | exact Or.inr rfl)) pgs_nil)))) pgs_nil)) (pgs_cons (pg_name (i := 1) sc_check_fades.nd rfl (by first | exact Or.inl rfl | exact Or.inr rfl)) (pgs_cons (pg_tup rfl (pgs_cons (pg_name (i := 2) sc_check_fades.nd rfl (by first | exact Or.inl rfl | exact Or.inr rfl)) (pgs_cons (pg_name (i := 3) sc_check_fades.nd rfl (by first | exact Or.inl rfl | exact Or.inr rfl)) (pgs_cons (pg_name (i := 4) sc_check_fades.nd rfl (by first | exact Or.inl rfl | exact Or.inr rfl)) pgs_nil)))) pgs_nil))) (pg_tup rfl (pgs_cons (pg_name (i := 1) sc_check_fades.nd rfl (by first | exact Or.inl rfl | exact Or.inr rfl)) (pgs_cons (pg_tup rfl (pgs_cons (pg_name (i := 2) sc_check_fades.nd rfl (by first | exact Or.inl rfl | exact Or.inr rfl)) (pgs_cons (pg_name (i := 3) sc_check_fades.nd rfl (by first | exact Or.inl rfl | exact Or.inr rfl)) (pgs_cons (pg_name (i := 4) sc_check_fades.nd rfl (by first | exact Or.inl rfl | exact Or.inr rfl)) pgs_nil)))) pgs_nil)))) (exb_cons (ex_if (EvW.t (evw_or (ev_cmpT op_lt ad_lt (ev_var 2) ev_int (by rfl)) (evw_or (ev_cmpT op_lt ad_lt (ev_var 3) ev_int (by rfl)) (evw_or1 (evt_not (ev_chainT op_le op_le ad_le ad_le ev_int (ev_var 4) ev_int)))))) (exb_one (ex_raise rfl tk PySem.F.excBase_ValueError T.xBadTable T.gBadTable T.kBadTable (raises_own T.bBadTable T.tBadTable) (by rfl))) exb_nil)
    (exb_one (ex_if (EvW.t (evw_and (ev_cmpT op_gt ad_gt (ev_var 1) ev_int (by rfl)) (evw_and1 (ev_cmpT op_gt ad_gt (ev_bin op_addU ad_add (ev_ix (ix_u (hu65 hr)) ad_ix (ev_ix (ix_u (hu65 hr)) ad_ix (ev_var 0) (ev_bin op_sub ad_sub (ev_var 1) ev_int) (fun _ _ => rfl)) ev_int (fun _ _ => rfl)) (ev_ix (ix_u (hu65 hr)) ad_ix (ev_ix (ix_u (hu65 hr)) ad_ix (ev_var 0) (ev_bin op_sub ad_sub (ev_var 1) ev_int) (fun _ _ => rfl)) ev_int (fun _ _ => rfl))) (ev_var 2) (by rfl))))) (exb_one (ex_raise rfl tk PySem.F.excBase_ValueError T.xBadTable T.gBadTable T.kBadTable (raises_own T.bBadTable T.tBadTable) (by rfl))) exb_nil)))))⟩
theorem ok_level_at (T : Tx K mg base cc_law P_law a_part a_check_fades a_level_at a_highest a_light a_changes a_law_dice a_law_roll a_law_rounds a_law_told a_law_fades a_law_level a_law c_BadPaper c_BadTable c_NoWay fd_part fd_check_fades fd_level_at fd_highest fd_light fd_changes fd_law_dice fd_law_roll fd_law_rounds fd_law_told fd_law_fades fd_law_level fd_law) (o_check_fades : FnOk P w K mg base (L2.CX P w) 1 a_check_fades fd_check_fades ["fades"] (spD mg [] 1 g_check_fades)) (o_part : FnOk P w K mg base (L2.CX P w) 1 a_part fd_part ["over", "under"] (spD mg [] 2 g_part)) : FnOk P w K mg base (L2.CX P w) 2 a_level_at fd_level_at ["fades", "time"] (spD mg [] 2 g_level_at) :=
  fnD [] d_level_at T.F_level_at sc_level_at fun cdv A outer s H E hr => by
  have tk : Takes (cxOf (L2.CX P w) P w K mg base ["fades", "time", "here", "begin", "lasts", "level"] "level_at" (defScope s_level_at) a_level_at cdv A outer s H E) (fun c d _ H' => E c d H') := takes_of rfl rfl rfl rfl
  have hp : PassesOwn (model P w) (cxOf (L2.CX P w) P w K mg base ["fades", "time", "here", "begin", "lasts", "level"] "level_at" (defScope s_level_at) a_level_at cdv A outer s H E).A (cxOf (L2.CX P w) P w K mg base ["fades", "time", "here", "begin", "lasts", "level"] "level_at" (defScope s_level_at) a_level_at cdv A outer s H E).env (cxOf (L2.CX P w) P w K mg base ["fades", "time", "here", "begin", "lasts", "level"] "level_at" (defScope s_level_at) a_level_at cdv A outer s H E).xe := PassesOwn.leaving
  exact ⟨_, (exb_cons (ex_expr (ev_callM tk o_check_fades (hr.mono (by omega)) (by rfl) T.m_check_fades T.k_check_fades T.b_check_fades (evf_cons (ev_val (ev_var 0)) evf_nil)))
    (exb_cons (ex_set (i := 2) false sc_level_at.nd rfl (by first | exact Or.inl rfl | exact Or.inr rfl) ev_int)
    (exb_cons (ex_for hp rfl (evi_listM (ev_var 0)) (exg_tupM (exgs_cons (exg_name (i := 3) sc_level_at.nd rfl (by first | exact Or.inl rfl | exact Or.inr rfl)) (exgs_cons (exg_name (i := 4) sc_level_at.nd rfl (by first | exact Or.inl rfl | exact Or.inr rfl)) (exgs_cons (exg_name (i := 5) sc_level_at.nd rfl (by first | exact Or.inl rfl | exact Or.inr rfl)) exgs_nil (pgs_cons (pg_name (i := 5) sc_level_at.nd rfl (by first | exact Or.inl rfl | exact Or.inr rfl)) pgs_nil)) (pgs_cons (pg_name (i := 4) sc_level_at.nd rfl (by first | exact Or.inl rfl | exact Or.inr rfl)) (pgs_cons (pg_name (i := 5) sc_level_at.nd rfl (by first | exact Or.inl rfl | exact Or.inr rfl)) pgs_nil))) (pgs_cons (pg_name (i := 3) sc_level_at.nd rfl (by first | exact Or.inl rfl | exact Or.inr rfl)) (pgs_cons (pg_name (i := 4) sc_level_at.nd rfl (by first | exact Or.inl rfl | exact Or.inr rfl)) (pgs_cons (pg_name (i := 5) sc_level_at.nd rfl (by first | exact Or.inl rfl | exact Or.inr rfl)) pgs_nil)))) (pg_tup rfl (pgs_cons (pg_name (i := 3) sc_level_at.nd rfl (by first | exact Or.inl rfl | exact Or.inr rfl)) (pgs_cons (pg_name (i := 4) sc_level_at.nd rfl (by first | exact Or.inl rfl | exact Or.inr rfl)) (pgs_cons (pg_name (i := 5) sc_level_at.nd rfl (by first | exact Or.inl rfl | exact Or.inr rfl)) pgs_nil))))) (exb_cons (ex_if (ev_cmpT op_lt ad_lt (ev_var 1) (ev_var 3) (by rfl)) (exb_one ex_break) exb_nil)
    (exb_cons (ex_if (ev_cmpT op_lt ad_lt (ev_var 1) (ev_bin op_addU ad_add (ev_var 3) (ev_var 4)) (by rfl)) (exb_one (ex_ret (ev_callM tk o_part (hr.mono (by omega)) (by rfl) T.m_part T.k_part T.b_part (evf_cons (ev_val (ev_bin op_addU ad_add (ev_bin op_mulU ad_mul (ev_var 2) (ev_var 4)) (ev_bin op_mulU ad_mul (ev_bin op_sub ad_sub (ev_var 5) (ev_var 2)) (ev_bin op_sub ad_sub (ev_var 1) (ev_var 3))))) (evf_cons (ev_val (ev_var 4)) evf_nil))))) exb_nil)
    (exb_one (ex_set (i := 2) false sc_level_at.nd rfl (by first | exact Or.inl rfl | exact Or.inr rfl) (ev_var 5))))))
    (exb_one (ex_ret (ev_tup (eva_cons (ev_var 2) (eva_cons ev_int eva_nil))))))))⟩
theorem ok_highest (T : Tx K mg base cc_law P_law a_part a_check_fades a_level_at a_highest a_light a_changes a_law_dice a_law_roll a_law_rounds a_law_told a_law_fades a_law_level a_law c_BadPaper c_BadTable c_NoWay fd_part fd_check_fades fd_level_at fd_highest fd_light fd_changes fd_law_dice fd_law_roll fd_law_rounds fd_law_told fd_law_fades fd_law_level fd_law) (o_level_at : FnOk P w K mg base (L2.CX P w) 2 a_level_at fd_level_at ["fades", "time"] (spD mg [] 2 g_level_at)) : FnOk P w K mg base (L2.CX P w) 3 a_highest fd_highest ["many", "time"] (spD mg [] 2 g_highest) :=
  fnD [] d_highest T.F_highest sc_highest fun cdv A outer s H E hr => by
  have tk : Takes (cxOf (L2.CX P w) P w K mg base ["many", "time", "best", "fades", "here"] "highest" (defScope s_highest) a_highest cdv A outer s H E) (fun c d _ H' => E c d H') := takes_of rfl rfl rfl rfl
  have hp : PassesOwn (model P w) (cxOf (L2.CX P w) P w K mg base ["many", "time", "best", "fades", "here"] "highest" (defScope s_highest) a_highest cdv A outer s H E).A (cxOf (L2.CX P w) P w K mg base ["many", "time", "best", "fades", "here"] "highest" (defScope s_highest) a_highest cdv A outer s H E).env (cxOf (L2.CX P w) P w K mg base ["many", "time", "best", "fades", "here"] "highest" (defScope s_highest) a_highest cdv A outer s H E).xe := PassesOwn.leaving
  exact ⟨_, (exb_cons (ex_set (i := 2) false sc_highest.nd rfl (by first | exact Or.inl rfl | exact Or.inr rfl) (ev_tup (eva_cons ev_int (eva_cons ev_int eva_nil))))
    (exb_cons (ex_for hp rfl (evi_listM (ev_var 0)) (exg_name (i := 3) sc_highest.nd rfl (by first | exact Or.inl rfl | exact Or.inr rfl)) (exb_cons (ex_set (i := 4) false sc_highest.nd rfl (by first | exact Or.inl rfl | exact Or.inr rfl) (ev_callM tk o_level_at (hr.mono (by omega)) (by rfl) T.m_level_at T.k_level_at T.b_level_at (evf_cons (ev_val (ev_var 3)) (evf_cons (ev_val (ev_var 1)) evf_nil))))
    (exb_one (ex_if (ev_cmpT op_gt ad_gt (ev_bin op_mulU ad_mul (ev_ix (ix_u (hu65 hr)) ad_ix (ev_var 4) ev_int (fun _ _ => rfl)) (ev_ix (ix_u (hu65 hr)) ad_ix (ev_var 2) ev_int (fun _ _ => rfl))) (ev_bin op_mulU ad_mul (ev_ix (ix_u (hu65 hr)) ad_ix (ev_var 2) ev_int (fun _ _ => rfl)) (ev_ix (ix_u (hu65 hr)) ad_ix (ev_var 4) ev_int (fun _ _ => rfl))) (by rfl)) (exb_one (ex_set (i := 2) false sc_highest.nd rfl (by first | exact Or.inl rfl | exact Or.inr rfl) (ev_var 4))) exb_nil))))
    (exb_one (ex_ret (ev_var 2)))))⟩
theorem ok_light (T : Tx K mg base cc_law P_law a_part a_check_fades a_level_at a_highest a_light a_changes a_law_dice a_law_roll a_law_rounds a_law_told a_law_fades a_law_level a_law c_BadPaper c_BadTable c_NoWay fd_part fd_check_fades fd_level_at fd_highest fd_light fd_changes fd_law_dice fd_law_roll fd_law_rounds fd_law_told fd_law_fades fd_law_level fd_law) (o_check_fades : FnOk P w K mg base (L2.CX P w) 1 a_check_fades fd_check_fades ["fades"] (spD mg [] 1 g_check_fades)) (o_level_at : FnOk P w K mg base (L2.CX P w) 2 a_level_at fd_level_at ["fades", "time"] (spD mg [] 2 g_level_at)) (o_part : FnOk P w K mg base (L2.CX P w) 1 a_part fd_part ["over", "under"] (spD mg [] 2 g_part)) : FnOk P w K mg base (L2.CX P w) 3 a_light fd_light ["fades", "until"] (spD mg [] 2 g_light) :=
  fnD [] d_light T.F_light sc_light fun cdv A outer s H E hr => by
  have tk : Takes (cxOf (L2.CX P w) P w K mg base ["fades", "until", "over", "under", "here", "now", "begin", "lasts", "level", "stop", "end", "width"] "light" (defScope s_light) a_light cdv A outer s H E) (fun c d _ H' => E c d H') := takes_of rfl rfl rfl rfl
  have hp : PassesOwn (model P w) (cxOf (L2.CX P w) P w K mg base ["fades", "until", "over", "under", "here", "now", "begin", "lasts", "level", "stop", "end", "width"] "light" (defScope s_light) a_light cdv A outer s H E).A (cxOf (L2.CX P w) P w K mg base ["fades", "until", "over", "under", "here", "now", "begin", "lasts", "level", "stop", "end", "width"] "light" (defScope s_light) a_light cdv A outer s H E).env (cxOf (L2.CX P w) P w K mg base ["fades", "until", "over", "under", "here", "now", "begin", "lasts", "level", "stop", "end", "width"] "light" (defScope s_light) a_light cdv A outer s H E).xe := PassesOwn.leaving
  exact ⟨_, (exb_cons (ex_expr (ev_callM tk o_check_fades (hr.mono (by omega)) (by rfl) T.m_check_fades T.k_check_fades T.b_check_fades (evf_cons (ev_val (ev_var 0)) evf_nil)))
    (exb_cons (ex_unp (ts := [(2, false), (3, false), (4, false), (5, false)]) (pg_tup rfl (pgs_cons (pg_name (i := 2) sc_light.nd rfl (by first | exact Or.inl rfl | exact Or.inr rfl)) (pgs_cons (pg_name (i := 3) sc_light.nd rfl (by first | exact Or.inl rfl | exact Or.inr rfl)) (pgs_cons (pg_name (i := 4) sc_light.nd rfl (by first | exact Or.inl rfl | exact Or.inr rfl)) (pgs_cons (pg_name (i := 5) sc_light.nd rfl (by first | exact Or.inl rfl | exact Or.inr rfl)) pgs_nil))))) (evf_cons ev_int (evf_cons ev_int (evf_cons ev_int (evf_cons ev_int evf_nil)))))
    (exb_cons (ex_for hp rfl (evi_listM (ev_var 0)) (exg_tupM (exgs_cons (exg_name (i := 6) sc_light.nd rfl (by first | exact Or.inl rfl | exact Or.inr rfl)) (exgs_cons (exg_name (i := 7) sc_light.nd rfl (by first | exact Or.inl rfl | exact Or.inr rfl)) (exgs_cons (exg_name (i := 8) sc_light.nd rfl (by first | exact Or.inl rfl | exact Or.inr rfl)) exgs_nil (pgs_cons (pg_name (i := 8) sc_light.nd rfl (by first | exact Or.inl rfl | exact Or.inr rfl)) pgs_nil)) (pgs_cons (pg_name (i := 7) sc_light.nd rfl (by first | exact Or.inl rfl | exact Or.inr rfl)) (pgs_cons (pg_name (i := 8) sc_light.nd rfl (by first | exact Or.inl rfl | exact Or.inr rfl)) pgs_nil))) (pgs_cons (pg_name (i := 6) sc_light.nd rfl (by first | exact Or.inl rfl | exact Or.inr rfl)) (pgs_cons (pg_name (i := 7) sc_light.nd rfl (by first | exact Or.inl rfl | exact Or.inr rfl)) (pgs_cons (pg_name (i := 8) sc_light.nd rfl (by first | exact Or.inl rfl | exact Or.inr rfl)) pgs_nil)))) (pg_tup rfl (pgs_cons (pg_name (i := 6) sc_light.nd rfl (by first | exact Or.inl rfl | exact Or.inr rfl)) (pgs_cons (pg_name (i := 7) sc_light.nd rfl (by first | exact Or.inl rfl | exact Or.inr rfl)) (pgs_cons (pg_name (i := 8) sc_light.nd rfl (by first | exact Or.inl rfl | exact Or.inr rfl)) pgs_nil))))) (exb_cons (ex_if (ev_cmpT op_ge ad_ge (ev_var 6) (ev_var 1) (by rfl)) (exb_one ex_break) exb_nil)
    (exb_cons (ex_aug (i := 2) sc_light.nd rfl (by first | exact Or.inl rfl | exact Or.inr rfl) (ev_bin op_mulU ad_mul (ev_bin op_mulU ad_mul (ev_var 4) (ev_bin op_sub ad_sub (ev_var 6) (ev_var 5))) (ev_var 3)) ip_add)
    (exb_cons (ex_set (i := 9) false sc_light.nd rfl (by first | exact Or.inl rfl | exact Or.inr rfl) (ev_callB (cr_minU rfl) ad_min (by rfl) T.min bt_min (eva_cons (ev_var 1) (eva_cons (ev_bin op_addU ad_add (ev_var 6) (ev_var 7)) eva_nil))))
    (exb_cons (ex_set (i := 10) false sc_light.nd rfl (by first | exact Or.inl rfl | exact Or.inr rfl) (ev_if (ev_cmpT op_lt ad_lt (ev_var 9) (ev_bin op_addU ad_add (ev_var 6) (ev_var 7)) (by rfl)) (ev_callM tk o_level_at (hr.mono (by omega)) (by rfl) T.m_level_at T.k_level_at T.b_level_at (evf_cons (ev_val (ev_var 0)) (evf_cons (ev_val (ev_var 9)) evf_nil))) (ev_tup (eva_cons (ev_var 8) (eva_cons ev_int eva_nil)))))
    (exb_cons (ex_set (i := 11) false sc_light.nd rfl (by first | exact Or.inl rfl | exact Or.inr rfl) (ev_bin op_sub ad_sub (ev_var 9) (ev_var 6)))
    (exb_cons (ex_par2 (i := 2) (j := 3) false false rfl sc_light.nd rfl rfl (by decide) rfl rfl (evf_cons (ev_bin op_addU ad_add (ev_bin op_mulU ad_mul (ev_bin op_mulU ad_mul (ev_var 2) ev_int) (ev_ix (ix_u (hu65 hr)) ad_ix (ev_var 10) ev_int (fun _ _ => rfl))) (ev_bin op_mulU ad_mul (ev_bin op_mulU ad_mul (ev_var 11) (ev_bin op_addU ad_add (ev_bin op_mulU ad_mul (ev_var 4) (ev_ix (ix_u (hu65 hr)) ad_ix (ev_var 10) ev_int (fun _ _ => rfl))) (ev_ix (ix_u (hu65 hr)) ad_ix (ev_var 10) ev_int (fun _ _ => rfl)))) (ev_var 3))) (evf_cons (ev_bin op_mulU ad_mul (ev_bin op_mulU ad_mul (ev_var 3) ev_int) (ev_ix (ix_u (hu65 hr)) ad_ix (ev_var 10) ev_int (fun _ _ => rfl))) evf_nil)) (by rfl))
    (exb_one (ex_par2 (i := 4) (j := 5) false false rfl sc_light.nd rfl rfl (by decide) rfl rfl (evf_cons (ev_var 8) (evf_cons (ev_var 9) evf_nil)) (by rfl))))))))))
    (exb_cons (ex_if (ev_cmpT op_lt ad_lt (ev_var 5) (ev_var 1) (by rfl)) (exb_one (ex_aug (i := 2) sc_light.nd rfl (by first | exact Or.inl rfl | exact Or.inr rfl) (ev_bin op_mulU ad_mul (ev_bin op_mulU ad_mul (ev_var 4) (ev_bin op_sub ad_sub (ev_var 1) (ev_var 5))) (ev_var 3)) ip_add)) exb_nil)
    (exb_one (ex_ret (ev_callM tk o_part (hr.mono (by omega)) (by rfl) T.m_part T.k_part T.b_part (evf_cons (ev_val (ev_var 2)) (evf_cons (ev_val (ev_var 3)) evf_nil)))))))))⟩
theorem ok_changes (T : Tx K mg base cc_law P_law a_part a_check_fades a_level_at a_highest a_light a_changes a_law_dice a_law_roll a_law_rounds a_law_told a_law_fades a_law_level a_law c_BadPaper c_BadTable c_NoWay fd_part fd_check_fades fd_level_at fd_highest fd_light fd_changes fd_law_dice fd_law_roll fd_law_rounds fd_law_told fd_law_fades fd_law_level fd_law)  : FnOk P w K mg base (L2.CX P w) 1 a_changes fd_changes ["fades"] (spD mg [] 1 g_changes) :=
  fnD [] d_changes T.F_changes sc_changes fun cdv A outer s H E hr => by
  have tk : Takes (cxOf (L2.CX P w) P w K mg base ["fades", "found", "here", "begin", "lasts", "level", "one"] "changes" (defScope s_changes) a_changes cdv A outer s H E) (fun c d _ H' => E c d H') := takes_of rfl rfl rfl rfl
  have hp : PassesOwn (model P w) (cxOf (L2.CX P w) P w K mg base ["fades", "found", "here", "begin", "lasts", "level", "one"] "changes" (defScope s_changes) a_changes cdv A outer s H E).A (cxOf (L2.CX P w) P w K mg base ["fades", "found", "here", "begin", "lasts", "level", "one"] "changes" (defScope s_changes) a_changes cdv A outer s H E).env (cxOf (L2.CX P w) P w K mg base ["fades", "found", "here", "begin", "lasts", "level", "one"] "changes" (defScope s_changes) a_changes cdv A outer s H E).xe := PassesOwn.leaving
  exact ⟨_, (exb_cons (ex_par2 (i := 1) (j := 2) true false rfl sc_changes.nd rfl rfl (by decide) rfl rfl (evf_cons (ev_lst eva_nil) (evf_cons ev_int evf_nil)) (by rfl))
    (exb_cons (ex_for hp rfl (evi_listM (ev_var 0)) (exg_tupM (exgs_cons (exg_name (i := 3) sc_changes.nd rfl (by first | exact Or.inl rfl | exact Or.inr rfl)) (exgs_cons (exg_name (i := 4) sc_changes.nd rfl (by first | exact Or.inl rfl | exact Or.inr rfl)) (exgs_cons (exg_name (i := 5) sc_changes.nd rfl (by first | exact Or.inl rfl | exact Or.inr rfl)) exgs_nil (pgs_cons (pg_name (i := 5) sc_changes.nd rfl (by first | exact Or.inl rfl | exact Or.inr rfl)) pgs_nil)) (pgs_cons (pg_name (i := 4) sc_changes.nd rfl (by first | exact Or.inl rfl | exact Or.inr rfl)) (pgs_cons (pg_name (i := 5) sc_changes.nd rfl (by first | exact Or.inl rfl | exact Or.inr rfl)) pgs_nil))) (pgs_cons (pg_name (i := 3) sc_changes.nd rfl (by first | exact Or.inl rfl | exact Or.inr rfl)) (pgs_cons (pg_name (i := 4) sc_changes.nd rfl (by first | exact Or.inl rfl | exact Or.inr rfl)) (pgs_cons (pg_name (i := 5) sc_changes.nd rfl (by first | exact Or.inl rfl | exact Or.inr rfl)) pgs_nil)))) (pg_tup rfl (pgs_cons (pg_name (i := 3) sc_changes.nd rfl (by first | exact Or.inl rfl | exact Or.inr rfl)) (pgs_cons (pg_name (i := 4) sc_changes.nd rfl (by first | exact Or.inl rfl | exact Or.inr rfl)) (pgs_cons (pg_name (i := 5) sc_changes.nd rfl (by first | exact Or.inl rfl | exact Or.inr rfl)) pgs_nil))))) (exb_cons (ex_if (ev_cmpT (op_neD (hu64 hr)) ad_ne (ev_var 5) (ev_var 2) (by rfl)) (exb_one (ex_expr (ev_mutM (T := .list) PySem.F.plainAttrs_list PySem.F.slot_list_extend PySem.F.type_list_extend mt_extend ad_extend (ev_var 1) (eva_cons (ev_lst (eva_cons (ev_var 3) (eva_cons (ev_bin op_addU ad_add (ev_var 3) (ev_var 4)) eva_nil))) eva_nil)))) exb_nil)
    (exb_one (ex_set (i := 2) false sc_changes.nd rfl (by first | exact Or.inl rfl | exact Or.inr rfl) (ev_var 5)))))
    (exb_one (ex_share (i := 1) (ex_ret (ev_callTy cr_tupleOf ad_tupleOf (by rfl) T.tuple bt_tuple (eva_cons (ev_sortedSc rfl (by rfl) T.sorted (evs_sc setDt_int [("one", 6)] rfl sc_changes.nd (evi_listM (ev_var 1)) (blkOk_by (N := ["fades", "found", "here", "begin", "lasts", "level", "one"]) (sc := defScope s_changes) (by decide +kernel)) (fun _ _ _ _ _ => (exg_name (i := 6) sc_changes.nd rfl (by first | exact Or.inl rfl | exact Or.inr rfl))) (fun _ _ _ _ _ => lc_yes _) (fun _ _ _ _ _ => (ev_var 6)) (by decide))) eva_nil)))))))⟩
theorem ok_law_roll (T : Tx K mg base cc_law P_law a_part a_check_fades a_level_at a_highest a_light a_changes a_law_dice a_law_roll a_law_rounds a_law_told a_law_fades a_law_level a_law c_BadPaper c_BadTable c_NoWay fd_part fd_check_fades fd_level_at fd_highest fd_light fd_changes fd_law_dice fd_law_roll fd_law_rounds fd_law_told fd_law_fades fd_law_level fd_law)  : FnOk P w K mg base (L2.CX P w) 1 a_law_roll fd_law_roll ["dice", "many"] (spD mg [0] 2 g_law_roll) :=
  fnD [0] d_law_roll T.F_law_roll sc_law_roll fun cdv A outer s H E hr => by
  have tk : Takes (cxOf (L2.CX P w) P w K mg base ["dice", "many", "found"] "_law_roll" (defScope s_law_roll) a_law_roll cdv A outer s H E) (fun c d _ H' => E c d H') := takes_of rfl rfl rfl rfl
  have hp : PassesOwn (model P w) (cxOf (L2.CX P w) P w K mg base ["dice", "many", "found"] "_law_roll" (defScope s_law_roll) a_law_roll cdv A outer s H E).A (cxOf (L2.CX P w) P w K mg base ["dice", "many", "found"] "_law_roll" (defScope s_law_roll) a_law_roll cdv A outer s H E).env (cxOf (L2.CX P w) P w K mg base ["dice", "many", "found"] "_law_roll" (defScope s_law_roll) a_law_roll cdv A outer s H E).xe := PassesOwn.leaving
  exact ⟨_, (exb_cons (ex_if (EvW.t (evw_or (ev_cmpT (op_eqD (hu64 hr)) ad_eq (ev_ix (ix_u (hu65 hr)) ad_ix (ev_var 0) ev_int (fun _ _ => rfl)) ev_int (by rfl)) (evw_or1 (EvW.t (evw_and (ev_cmpT (op_eqD (hu64 hr)) ad_eq (ev_ix (ix_u (hu65 hr)) ad_ix (ev_var 0) ev_int (fun _ _ => rfl)) ev_int (by rfl)) (evw_and1 (ev_cmpT op_gt ad_gt (ev_ix (ix_u (hu65 hr)) ad_ix (ev_var 0) ev_int (fun _ _ => rfl)) ev_int (by rfl)))))))) (exb_cons (ex_set (i := 2) false sc_law_roll.nd rfl (by first | exact Or.inl rfl | exact Or.inr rfl) (ev_bin op_modN ad_mod (ev_callTy call_int1 ad_int (by rfl) T.int bt_int (eva_cons (ev_ix (ix_u (hu65 hr)) ad_ix (ev_var 0) ev_int (fun _ _ => rfl)) eva_nil)) (ev_var 1)))
    (exb_cons (ex_store (hu65 hr) (ev_var 0) ev_int (ev_bin op_fdivN ad_div (ev_ix (ix_u (hu65 hr)) ad_ix (ev_var 0) ev_int (fun _ _ => rfl)) (ev_var 1)))
    (exb_one (ex_ret (ev_var 2))))) exb_nil)
    (exb_cons (ex_store (hu65 hr) (ev_var 0) ev_int ev_int)
    (exb_cons (ex_store (hu65 hr) (ev_var 0) ev_int (ev_bin op_modN ad_mod (ev_callTy call_int1 ad_int (by rfl) T.int bt_int (eva_cons (ev_bin op_addU ad_add (ev_bin op_addU ad_add (ev_bin op_mulU ad_mul (ev_ix (ix_u (hu65 hr)) ad_ix (ev_var 0) ev_int (fun _ _ => rfl)) ev_int) (ev_bin op_mulU ad_mul (ev_ix (ix_u (hu65 hr)) ad_ix (ev_var 0) ev_int (fun _ _ => rfl)) ev_int)) ev_int) eva_nil)) ev_int))
    (exb_cons (ex_store (hu65 hr) (ev_var 0) ev_int (ev_bin op_addU ad_add (ev_ix (ix_u (hu65 hr)) ad_ix (ev_var 0) ev_int (fun _ _ => rfl)) ev_int))
    (exb_one (ex_ret (ev_bin op_modN ad_mod (ev_callTy call_int1 ad_int (by rfl) T.int bt_int (eva_cons (ev_bin op_addU ad_add (ev_bin op_fdivN ad_div (ev_ix (ix_u (hu65 hr)) ad_ix (ev_var 0) ev_int (fun _ _ => rfl)) ev_int) (ev_ix (ix_u (hu65 hr)) ad_ix (ev_var 0) ev_int (fun _ _ => rfl))) eva_nil)) (ev_var 1))))))))⟩
theorem ok_law_fades (T : Tx K mg base cc_law P_law a_part a_check_fades a_level_at a_highest a_light a_changes a_law_dice a_law_roll a_law_rounds a_law_told a_law_fades a_law_level a_law c_BadPaper c_BadTable c_NoWay fd_part fd_check_fades fd_level_at fd_highest fd_light fd_changes fd_law_dice fd_law_roll fd_law_rounds fd_law_told fd_law_fades fd_law_level fd_law) (o_law_roll : FnOk P w K mg base (L2.CX P w) 1 a_law_roll fd_law_roll ["dice", "many"] (spD mg [0] 2 g_law_roll)) : FnOk P w K mg base (L2.CX P w) 2 a_law_fades fd_law_fades ["dice"] (spD mg [0] 1 g_law_fades) :=
  fnD [0] d_law_fades T.F_law_fades sc_law_fades fun cdv A outer s H E hr => by
  have tk : Takes (cxOf (L2.CX P w) P w K mg base ["dice", "found", "time", "k", "lasts"] "_law_fades" (defScope s_law_fades) a_law_fades cdv A outer s H E) (fun c d _ H' => E c d H') := takes_of rfl rfl rfl rfl
  have hp : PassesOwn (model P w) (cxOf (L2.CX P w) P w K mg base ["dice", "found", "time", "k", "lasts"] "_law_fades" (defScope s_law_fades) a_law_fades cdv A outer s H E).A (cxOf (L2.CX P w) P w K mg base ["dice", "found", "time", "k", "lasts"] "_law_fades" (defScope s_law_fades) a_law_fades cdv A outer s H E).env (cxOf (L2.CX P w) P w K mg base ["dice", "found", "time", "k", "lasts"] "_law_fades" (defScope s_law_fades) a_law_fades cdv A outer s H E).xe := PassesOwn.leaving
  exact ⟨_, (exb_cons (ex_par2 (i := 1) (j := 2) true false rfl sc_law_fades.nd rfl rfl (by decide) rfl rfl (evf_cons (ev_lst eva_nil) (evf_cons ev_int evf_nil)) (by rfl))
    (exb_cons (ex_for hp rfl (evi_r1 (by rfl) T.range (eva_cons (ev_callM tk o_law_roll (hr.mono (by omega)) (by rfl) T.m_law_roll T.k_law_roll T.b_law_roll (evf_cons (ev_var 0) (evf_cons (ev_val ev_int) evf_nil))) eva_nil)) (exg_name (i := 3) sc_law_fades.nd rfl (by first | exact Or.inl rfl | exact Or.inr rfl)) (exb_cons (ex_set (i := 2) false sc_law_fades.nd rfl (by first | exact Or.inl rfl | exact Or.inr rfl) (ev_bin op_addU ad_add (ev_var 2) (ev_callM tk o_law_roll (hr.mono (by omega)) (by rfl) T.m_law_roll T.k_law_roll T.b_law_roll (evf_cons (ev_var 0) (evf_cons (ev_val ev_int) evf_nil)))))
    (exb_cons (ex_set (i := 4) false sc_law_fades.nd rfl (by first | exact Or.inl rfl | exact Or.inr rfl) (ev_callM tk o_law_roll (hr.mono (by omega)) (by rfl) T.m_law_roll T.k_law_roll T.b_law_roll (evf_cons (ev_var 0) (evf_cons (ev_val ev_int) evf_nil))))
    (exb_cons (ex_expr (ev_mutM (T := .list) PySem.F.plainAttrs_list PySem.F.slot_list_append PySem.F.type_list_append mt_append ad_append (ev_var 1) (eva_cons (ev_tup (eva_cons (ev_var 2) (eva_cons (ev_var 4) (eva_cons (ev_bin op_mulU ad_mul ev_int (ev_callM tk o_law_roll (hr.mono (by omega)) (by rfl) T.m_law_roll T.k_law_roll T.b_law_roll (evf_cons (ev_var 0) (evf_cons (ev_val ev_int) evf_nil)))) eva_nil)))) eva_nil)))
    (exb_one (ex_set (i := 2) false sc_law_fades.nd rfl (by first | exact Or.inl rfl | exact Or.inr rfl) (ev_bin op_addU ad_add (ev_var 2) (ev_var 4))))))))
    (exb_one (ex_ret (ev_var 1)))))⟩
theorem ok_law_level (T : Tx K mg base cc_law P_law a_part a_check_fades a_level_at a_highest a_light a_changes a_law_dice a_law_roll a_law_rounds a_law_told a_law_fades a_law_level a_law c_BadPaper c_BadTable c_NoWay fd_part fd_check_fades fd_level_at fd_highest fd_light fd_changes fd_law_dice fd_law_roll fd_law_rounds fd_law_told fd_law_fades fd_law_level fd_law)  : FnOk P w K mg base (L2.CX P w) 1 a_law_level fd_law_level ["fades", "time"] (spD mg [] 2 g_law_level) :=
  fnD [] d_law_level T.F_law_level sc_law_level fun cdv A outer s H E hr => by
  have tk : Takes (cxOf (L2.CX P w) P w K mg base ["fades", "time", "here", "begin", "lasts", "level", "gone"] "_law_level" (defScope s_law_level) a_law_level cdv A outer s H E) (fun c d _ H' => E c d H') := takes_of rfl rfl rfl rfl
  have hp : PassesOwn (model P w) (cxOf (L2.CX P w) P w K mg base ["fades", "time", "here", "begin", "lasts", "level", "gone"] "_law_level" (defScope s_law_level) a_law_level cdv A outer s H E).A (cxOf (L2.CX P w) P w K mg base ["fades", "time", "here", "begin", "lasts", "level", "gone"] "_law_level" (defScope s_law_level) a_law_level cdv A outer s H E).env (cxOf (L2.CX P w) P w K mg base ["fades", "time", "here", "begin", "lasts", "level", "gone"] "_law_level" (defScope s_law_level) a_law_level cdv A outer s H E).xe := PassesOwn.leaving
  exact ⟨_, (exb_cons (ex_set (i := 2) false sc_law_level.nd rfl (by first | exact Or.inl rfl | exact Or.inr rfl) ev_int)
    (exb_cons (ex_for hp rfl (evi_listM (ev_var 0)) (exg_tupM (exgs_cons (exg_name (i := 3) sc_law_level.nd rfl (by first | exact Or.inl rfl | exact Or.inr rfl)) (exgs_cons (exg_name (i := 4) sc_law_level.nd rfl (by first | exact Or.inl rfl | exact Or.inr rfl)) (exgs_cons (exg_name (i := 5) sc_law_level.nd rfl (by first | exact Or.inl rfl | exact Or.inr rfl)) exgs_nil (pgs_cons (pg_name (i := 5) sc_law_level.nd rfl (by first | exact Or.inl rfl | exact Or.inr rfl)) pgs_nil)) (pgs_cons (pg_name (i := 4) sc_law_level.nd rfl (by first | exact Or.inl rfl | exact Or.inr rfl)) (pgs_cons (pg_name (i := 5) sc_law_level.nd rfl (by first | exact Or.inl rfl | exact Or.inr rfl)) pgs_nil))) (pgs_cons (pg_name (i := 3) sc_law_level.nd rfl (by first | exact Or.inl rfl | exact Or.inr rfl)) (pgs_cons (pg_name (i := 4) sc_law_level.nd rfl (by first | exact Or.inl rfl | exact Or.inr rfl)) (pgs_cons (pg_name (i := 5) sc_law_level.nd rfl (by first | exact Or.inl rfl | exact Or.inr rfl)) pgs_nil)))) (pg_tup rfl (pgs_cons (pg_name (i := 3) sc_law_level.nd rfl (by first | exact Or.inl rfl | exact Or.inr rfl)) (pgs_cons (pg_name (i := 4) sc_law_level.nd rfl (by first | exact Or.inl rfl | exact Or.inr rfl)) (pgs_cons (pg_name (i := 5) sc_law_level.nd rfl (by first | exact Or.inl rfl | exact Or.inr rfl)) pgs_nil))))) (exb_one (ex_if (ev_cmpT op_le ad_le (ev_var 3) (ev_var 1) (by rfl)) (exb_cons (ex_set (i := 6) false sc_law_level.nd rfl (by first | exact Or.inl rfl | exact Or.inr rfl) (ev_callB (cr_minU rfl) ad_min (by rfl) T.min bt_min (eva_cons (ev_bin op_sub ad_sub (ev_var 1) (ev_var 3)) (eva_cons (ev_var 4) eva_nil))))
    (exb_one (ex_set (i := 2) false sc_law_level.nd rfl (by first | exact Or.inl rfl | exact Or.inr rfl) (ev_if (EvW.t (evw_or (ev_cmpT (op_eqD (hu64 hr)) ad_eq (ev_var 4) ev_int (by rfl)) (evw_or1 (ev_cmpT (op_eqD (hu64 hr)) ad_eq (ev_var 6) (ev_var 4) (by rfl))))) (ev_bin op_mulU ad_mul ev_int (ev_var 5)) (ev_bin op_addU ad_add (ev_var 2) (ev_bin op_fdivN ad_div (ev_bin op_mulU ad_mul (ev_bin op_sub ad_sub (ev_bin op_mulU ad_mul ev_int (ev_var 5)) (ev_var 2)) (ev_var 6)) (ev_var 4))))))) exb_nil)))
    (exb_one (ex_ret (ev_var 2)))))⟩
end
end K15

namespace K15
open PySem L2 L3
abbrev lawBody : List Stmt := match defBody s_law with
  | .For _ _ b _ _ :: _ => b
  | _ => []
section
variable [tb : Tb] {P : Program} {w : World} {K : PySem.W.Frag} {mg : Str → Option Value} {base : Heap} {cc_law P_law a_part a_check_fades a_level_at a_highest a_light a_changes a_law_dice a_law_roll a_law_rounds a_law_told a_law_fades a_law_level a_law c_BadPaper c_BadTable c_NoWay : Addr} {fd_part fd_check_fades fd_level_at fd_highest fd_light fd_changes fd_law_dice fd_law_roll fd_law_rounds fd_law_told fd_law_fades fd_law_level fd_law : FuncData}
theorem ok_law (T : Tx K mg base cc_law P_law a_part a_check_fades a_level_at a_highest a_light a_changes a_law_dice a_law_roll a_law_rounds a_law_told a_law_fades a_law_level a_law c_BadPaper c_BadTable c_NoWay fd_part fd_check_fades fd_level_at fd_highest fd_light fd_changes fd_law_dice fd_law_roll fd_law_rounds fd_law_told fd_law_fades fd_law_level fd_law) (o_law_rounds : FnOk P w K mg base (L2.CX P w) 2 a_law_rounds fd_law_rounds ["script", "most"] (spRounds K)) (o_law_fades : FnOk P w K mg base (L2.CX P w) 2 a_law_fades fd_law_fades ["dice"] (spD mg [0] 1 g_law_fades)) (o_law_roll : FnOk P w K mg base (L2.CX P w) 1 a_law_roll fd_law_roll ["dice", "many"] (spD mg [0] 2 g_law_roll)) (o_law_level : FnOk P w K mg base (L2.CX P w) 1 a_law_level fd_law_level ["fades", "time"] (spD mg [] 2 g_law_level)) (o_level_at : FnOk P w K mg base (L2.CX P w) 2 a_level_at fd_level_at ["fades", "time"] (spD mg [] 2 g_level_at)) (o_part : FnOk P w K mg base (L2.CX P w) 1 a_part fd_part ["over", "under"] (spD mg [] 2 g_part)) (o_highest : FnOk P w K mg base (L2.CX P w) 3 a_highest fd_highest ["many", "time"] (spD mg [] 2 g_highest)) (o_light : FnOk P w K mg base (L2.CX P w) 3 a_light fd_light ["fades", "until"] (spD mg [] 2 g_light)) (o_changes : FnOk P w K mg base (L2.CX P w) 1 a_changes fd_changes ["fades"] (spD mg [] 1 g_changes)) (o_check_fades : FnOk P w K mg base (L2.CX P w) 1 a_check_fades fd_check_fades ["fades"] (spD mg [] 1 g_check_fades)) (hlaw : ∀ x y z : Int, ∃ ρ', d_law (startLaw 18 x y z) = some (.ok .next, ρ') ∧ ρ'.length = 18) : FnOk P w K mg base (L2.CX P w) 4 a_law fd_law ["script"] (spLaw K) := by
  refine okXc T.F_law T.cf_law sc_law (fun vs H Q E ⟨a, ns, h, _⟩ => by rw [h]; rfl) fun A outer s H vs Q E hr h => ?_
  obtain ⟨a, ns, rfl, hS, h63, htb, q⟩ := h
  have tk : Takes (cxOf (L2.CX P w) P w K mg base ["script", "dice", "one", "two", "until", "time", "level", "other", "whole", "here", "now", "begin", "lasts", "stop", "last", "end", "due", "k"] "law" (defScope s_law) a_law (.ref cc_law) A outer s H E) (fun c d _ H' => E c d H') := takes_of rfl rfl rfl rfl
  have hp : PassesOwn (model P w) (cxOf (L2.CX P w) P w K mg base ["script", "dice", "one", "two", "until", "time", "level", "other", "whole", "here", "now", "begin", "lasts", "stop", "last", "end", "due", "k"] "law" (defScope s_law) a_law (.ref cc_law) A outer s H E).A (cxOf (L2.CX P w) P w K mg base ["script", "dice", "one", "two", "until", "time", "level", "other", "whole", "here", "now", "begin", "lasts", "stop", "last", "end", "due", "k"] "law" (defScope s_law) a_law (.ref cc_law) A outer s H E).env (cxOf (L2.CX P w) P w K mg base ["script", "dice", "one", "two", "until", "time", "level", "other", "whole", "here", "now", "begin", "lasts", "stop", "last", "end", "due", "k"] "law" (defScope s_law) a_law (.ref cc_law) A outer s H E).xe := PassesOwn.leaving
  have hx : ∃ t, ExB (cxOf (L2.CX P w) P w K mg base ["script", "dice", "one", "two", "until", "time", "level", "other", "whole", "here", "now", "begin", "lasts", "stop", "last", "end", "due", "k"] "law" (defScope s_law) a_law (.ref cc_law) A outer s H E) (fun c d _ H' => E c d H') lawBody t d_law := ⟨_, (exb_cons (ex_par3 (i := 2) (j := 3) (l := 4) false false false rfl sc_law.nd rfl rfl rfl (by decide) (by decide) (by decide) rfl rfl rfl (evf_cons (ev_callM tk o_law_fades (hr.mono (by omega)) (by rfl) T.m_law_fades T.k_law_fades T.b_law_fades (evf_cons (ev_var 1) evf_nil)) (evf_cons (ev_callM tk o_law_fades (hr.mono (by omega)) (by rfl) T.m_law_fades T.k_law_fades T.b_law_fades (evf_cons (ev_var 1) evf_nil)) (evf_cons (ev_callM tk o_law_roll (hr.mono (by omega)) (by rfl) T.m_law_roll T.k_law_roll T.b_law_roll (evf_cons (ev_var 1) (evf_cons (ev_val ev_int) evf_nil))) evf_nil))) (by rfl))
    (exb_cons (ex_for hp rfl (evi_r1 (by rfl) T.range (eva_cons ev_int eva_nil)) (exg_name (i := 5) sc_law.nd rfl (by first | exact Or.inl rfl | exact Or.inr rfl)) (exb_cons (ex_par2 (i := 6) (j := 7) false false rfl sc_law.nd rfl rfl (by decide) rfl rfl (evf_cons (ev_callM tk o_law_level (hr.mono (by omega)) (by rfl) T.m_law_level T.k_law_level T.b_law_level (evf_cons (ev_val (ev_var 2)) (evf_cons (ev_val (ev_var 5)) evf_nil))) (evf_cons (ev_callM tk o_law_level (hr.mono (by omega)) (by rfl) T.m_law_level T.k_law_level T.b_law_level (evf_cons (ev_val (ev_var 3)) (evf_cons (ev_val (ev_var 5)) evf_nil))) evf_nil)) (by rfl))
    (exb_one (ex_if (EvW.t (evw_or (ev_cmpT (op_neD (hu64 hr)) ad_ne (ev_callM tk o_level_at (hr.mono (by omega)) (by rfl) T.m_level_at T.k_level_at T.b_level_at (evf_cons (ev_val (ev_var 2)) (evf_cons (ev_val (ev_var 5)) evf_nil))) (ev_callM tk o_part (hr.mono (by omega)) (by rfl) T.m_part T.k_part T.b_part (evf_cons (ev_val (ev_var 6)) (evf_cons (ev_val ev_int) evf_nil))) (by rfl)) (evw_or1 (ev_cmpT (op_neD (hu64 hr)) ad_ne (ev_callM tk o_highest (hr.mono (by omega)) (by rfl) T.m_highest T.k_highest T.b_highest (evf_cons (ev_val (ev_lst (eva_cons (ev_var 2) (eva_cons (ev_var 3) eva_nil)))) (evf_cons (ev_val (ev_var 5)) evf_nil))) (ev_callM tk o_part (hr.mono (by omega)) (by rfl) T.m_part T.k_part T.b_part (evf_cons (ev_val (ev_callB (cr_maxU rfl) ad_max (by rfl) T.max bt_max (eva_cons (ev_var 6) (eva_cons (ev_var 7) eva_nil)))) (evf_cons (ev_val ev_int) evf_nil))) (by rfl))))) (exb_one (ex_ret ev_bl)) exb_nil))))
    (exb_cons (ex_unp (ts := [(8, false), (9, false), (10, false)]) (pg_tup rfl (pgs_cons (pg_name (i := 8) sc_law.nd rfl (by first | exact Or.inl rfl | exact Or.inr rfl)) (pgs_cons (pg_name (i := 9) sc_law.nd rfl (by first | exact Or.inl rfl | exact Or.inr rfl)) (pgs_cons (pg_name (i := 10) sc_law.nd rfl (by first | exact Or.inl rfl | exact Or.inr rfl)) pgs_nil)))) (evf_cons ev_int (evf_cons ev_int (evf_cons ev_int evf_nil))))
    (exb_cons (ex_for hp rfl (evi_listM (ev_var 2)) (exg_tupM (exgs_cons (exg_name (i := 11) sc_law.nd rfl (by first | exact Or.inl rfl | exact Or.inr rfl)) (exgs_cons (exg_name (i := 12) sc_law.nd rfl (by first | exact Or.inl rfl | exact Or.inr rfl)) (exgs_cons (exg_name (i := 6) sc_law.nd rfl (by first | exact Or.inl rfl | exact Or.inr rfl)) exgs_nil (pgs_cons (pg_name (i := 6) sc_law.nd rfl (by first | exact Or.inl rfl | exact Or.inr rfl)) pgs_nil)) (pgs_cons (pg_name (i := 12) sc_law.nd rfl (by first | exact Or.inl rfl | exact Or.inr rfl)) (pgs_cons (pg_name (i := 6) sc_law.nd rfl (by first | exact Or.inl rfl | exact Or.inr rfl)) pgs_nil))) (pgs_cons (pg_name (i := 11) sc_law.nd rfl (by first | exact Or.inl rfl | exact Or.inr rfl)) (pgs_cons (pg_name (i := 12) sc_law.nd rfl (by first | exact Or.inl rfl | exact Or.inr rfl)) (pgs_cons (pg_name (i := 6) sc_law.nd rfl (by first | exact Or.inl rfl | exact Or.inr rfl)) pgs_nil)))) (pg_tup rfl (pgs_cons (pg_name (i := 11) sc_law.nd rfl (by first | exact Or.inl rfl | exact Or.inr rfl)) (pgs_cons (pg_name (i := 12) sc_law.nd rfl (by first | exact Or.inl rfl | exact Or.inr rfl)) (pgs_cons (pg_name (i := 6) sc_law.nd rfl (by first | exact Or.inl rfl | exact Or.inr rfl)) pgs_nil))))) (exb_cons (ex_set (i := 13) false sc_law.nd rfl (by first | exact Or.inl rfl | exact Or.inr rfl) (ev_callB (cr_minU rfl) ad_min (by rfl) T.min bt_min (eva_cons (ev_var 4) (eva_cons (ev_var 11) eva_nil))))
    (exb_cons (ex_set (i := 8) false sc_law.nd rfl (by first | exact Or.inl rfl | exact Or.inr rfl) (ev_bin op_addU ad_add (ev_var 8) (ev_bin op_mulU ad_mul (ev_bin op_mulU ad_mul ev_int (ev_var 9)) (ev_callB (cr_maxU rfl) ad_max (by rfl) T.max bt_max (eva_cons ev_int (eva_cons (ev_bin op_sub ad_sub (ev_var 13) (ev_var 10)) eva_nil))))))
    (exb_cons (ex_par2 (i := 10) (j := 14) false false rfl sc_law.nd rfl rfl (by decide) rfl rfl (evf_cons (ev_callB (cr_maxU rfl) ad_max (by rfl) T.max bt_max (eva_cons (ev_var 10) (eva_cons (ev_var 13) eva_nil))) (evf_cons (ev_callB (cr_minU rfl) ad_min (by rfl) T.min bt_min (eva_cons (ev_var 4) (eva_cons (ev_bin op_addU ad_add (ev_var 11) (ev_var 12)) eva_nil))) evf_nil)) (by rfl))
    (exb_one (ex_if (ev_cmpT op_lt ad_lt (ev_var 11) (ev_var 4) (by rfl)) (exb_cons (ex_set (i := 15) false sc_law.nd rfl (by first | exact Or.inl rfl | exact Or.inr rfl) (ev_if (ev_cmpT op_lt ad_lt (ev_var 14) (ev_bin op_addU ad_add (ev_var 11) (ev_var 12)) (by rfl)) (ev_callM tk o_law_level (hr.mono (by omega)) (by rfl) T.m_law_level T.k_law_level T.b_law_level (evf_cons (ev_val (ev_var 2)) (evf_cons (ev_val (ev_var 14)) evf_nil))) (ev_bin op_mulU ad_mul ev_int (ev_var 6))))
    (exb_cons (ex_set (i := 8) false sc_law.nd rfl (by first | exact Or.inl rfl | exact Or.inr rfl) (ev_bin op_addU ad_add (ev_var 8) (ev_bin op_mulU ad_mul (ev_bin op_addU ad_add (ev_bin op_mulU ad_mul ev_int (ev_var 9)) (ev_var 15)) (ev_bin op_sub ad_sub (ev_var 14) (ev_var 11)))))
    (exb_one (ex_par2 (i := 9) (j := 10) false false rfl sc_law.nd rfl rfl (by decide) rfl rfl (evf_cons (ev_var 6) (evf_cons (ev_var 14) evf_nil)) (by rfl))))) exb_nil))))))
    (exb_cons (ex_set (i := 8) false sc_law.nd rfl (by first | exact Or.inl rfl | exact Or.inr rfl) (ev_bin op_addU ad_add (ev_var 8) (ev_bin op_mulU ad_mul (ev_bin op_mulU ad_mul ev_int (ev_var 9)) (ev_callB (cr_maxU rfl) ad_max (by rfl) T.max bt_max (eva_cons ev_int (eva_cons (ev_bin op_sub ad_sub (ev_var 4) (ev_var 10)) eva_nil))))))
    (exb_cons (ex_if (ev_cmpT (op_neD (hu64 hr)) ad_ne (ev_callM tk o_light (hr.mono (by omega)) (by rfl) T.m_light T.k_light T.b_light (evf_cons (ev_val (ev_var 2)) (evf_cons (ev_val (ev_var 4)) evf_nil))) (ev_callM tk o_part (hr.mono (by omega)) (by rfl) T.m_part T.k_part T.b_part (evf_cons (ev_val (ev_var 8)) (evf_cons (ev_val ev_int) evf_nil))) (by rfl)) (exb_one (ex_ret ev_bl)) exb_nil)
    (exb_cons (ex_unp (ts := [(16, false), (9, false)]) (pg_tup rfl (pgs_cons (pg_name (i := 16) sc_law.nd rfl (by first | exact Or.inl rfl | exact Or.inr rfl)) (pgs_cons (pg_name (i := 9) sc_law.nd rfl (by first | exact Or.inl rfl | exact Or.inr rfl)) pgs_nil))) (evf_cons (ev_lst eva_nil) (evf_cons ev_int evf_nil)))
    (exb_cons (ex_for hp rfl (evi_listM (ev_var 2)) (exg_tupM (exgs_cons (exg_name (i := 11) sc_law.nd rfl (by first | exact Or.inl rfl | exact Or.inr rfl)) (exgs_cons (exg_name (i := 12) sc_law.nd rfl (by first | exact Or.inl rfl | exact Or.inr rfl)) (exgs_cons (exg_name (i := 6) sc_law.nd rfl (by first | exact Or.inl rfl | exact Or.inr rfl)) exgs_nil (pgs_cons (pg_name (i := 6) sc_law.nd rfl (by first | exact Or.inl rfl | exact Or.inr rfl)) pgs_nil)) (pgs_cons (pg_name (i := 12) sc_law.nd rfl (by first | exact Or.inl rfl | exact Or.inr rfl)) (pgs_cons (pg_name (i := 6) sc_law.nd rfl (by first | exact Or.inl rfl | exact Or.inr rfl)) pgs_nil))) (pgs_cons (pg_name (i := 11) sc_law.nd rfl (by first | exact Or.inl rfl | exact Or.inr rfl)) (pgs_cons (pg_name (i := 12) sc_law.nd rfl (by first | exact Or.inl rfl | exact Or.inr rfl)) (pgs_cons (pg_name (i := 6) sc_law.nd rfl (by first | exact Or.inl rfl | exact Or.inr rfl)) pgs_nil)))) (pg_tup rfl (pgs_cons (pg_name (i := 11) sc_law.nd rfl (by first | exact Or.inl rfl | exact Or.inr rfl)) (pgs_cons (pg_name (i := 12) sc_law.nd rfl (by first | exact Or.inl rfl | exact Or.inr rfl)) (pgs_cons (pg_name (i := 6) sc_law.nd rfl (by first | exact Or.inl rfl | exact Or.inr rfl)) pgs_nil))))) (exb_cons (ex_if (ev_cmpT (op_neD (hu64 hr)) ad_ne (ev_var 6) (ev_var 9) (by rfl)) (exb_one (ex_set (i := 16) false sc_law.nd rfl (by first | exact Or.inl rfl | exact Or.inr rfl) (ev_bin op_addU ad_add (ev_var 16) (ev_lst (eva_cons (ev_var 11) (eva_cons (ev_bin op_addU ad_add (ev_var 11) (ev_var 12)) eva_nil)))))) exb_nil)
    (exb_one (ex_set (i := 9) false sc_law.nd rfl (by first | exact Or.inl rfl | exact Or.inr rfl) (ev_var 6)))))
    (exb_cons (ex_if (ev_cmpT (op_neD (hu64 hr)) ad_ne (ev_callTy cr_listOf ad_listOf (by rfl) T.list bt_list (eva_cons (ev_callM tk o_changes (hr.mono (by omega)) (by rfl) T.m_changes T.k_changes T.b_changes (evf_cons (ev_val (ev_var 2)) evf_nil)) eva_nil)) (ev_callB cr_sortedI ad_sortedI (by rfl) T.sorted bt_sorted (eva_cons (ev_lc [("k", 17)] rfl sc_law.nd (evi_r1 (by rfl) T.range (eva_cons (ev_callB cr_lenU ad_len (by rfl) T.len bt_len (eva_cons (ev_var 16) eva_nil)) eva_nil)) (blkOk_by (N := ["script", "dice", "one", "two", "until", "time", "level", "other", "whole", "here", "now", "begin", "lasts", "stop", "last", "end", "due", "k"]) (sc := defScope s_law) (by decide +kernel)) (fun _ _ _ _ _ => (exg_name (i := 17) sc_law.nd rfl (by first | exact Or.inl rfl | exact Or.inr rfl))) (fun _ _ _ _ _ => lc_if (ev_cmpT (op_notInU (hu65 hr)) ad_notIn (ev_ix (ix_u (hu65 hr)) ad_ix (ev_var 16) (ev_var 17) (fun _ _ => rfl)) (ev_slM (ev_var 16) evo_none (evo_some (ev_var 17))) (by rfl))) (fun _ _ _ _ _ => (ev_ix (ix_u (hu65 hr)) ad_ix (ev_var 16) (ev_var 17) (fun _ _ => rfl))) (by decide)) eva_nil)) (by rfl)) (exb_one (ex_ret ev_bl)) exb_nil)
    (exb_cons (ex_if (ev_cmpT (op_neD (hu64 hr)) ad_ne (ev_told (k := 1) (Ng := ["what"]) (l := [([], ["BadTable"], "no way"), (["BadTable"], [], "table"), ([], ["BadTable"], "paper")]) (l' := [(Value.ref c_NoWay, "no way"), (Value.ref c_BadTable, "table"), (Value.ref c_BadPaper, "paper")]) T.F_law_told (hr.mono (by omega)) ⟨rfl, T.tb_law, T.tm_law, T.tu_law⟩ (by rfl) (by rfl) T.m_law_told T.b_law_told sc_law_told rfl (.inl rfl) (fun _ => told_many (fun _ _ => (.cons ⟨by rfl, by decide, .inl T.gNoWay⟩ (fun _ _ _ _ _ _ _ => pss_one (ps_ret pe_str)) (.cons ⟨by rfl, by decide, .inl T.gBadTable⟩ (fun _ _ _ _ _ _ _ => pss_one (ps_ret pe_str)) (.cons ⟨by rfl, by decide, .inl T.gBadPaper⟩ (fun _ _ _ _ _ _ _ => pss_one (ps_ret pe_str)) .nil)))) (fun _ => rfl)) (.cons T.yesNoWay T.noNoWay (.cons T.yesBadTable T.noBadTable (.cons T.yesBadPaper T.noBadPaper .nil))) (lamOk_by (own := []) (blkOk_by (N := ["script", "dice", "one", "two", "until", "time", "level", "other", "whole", "here", "now", "begin", "lasts", "stop", "last", "end", "due", "k"]) (sc := defScope s_law) (by decide +kernel)) (by decide +kernel)) sc_law.nd rfl (fun _ _ _ _ _ => rfl) (fun _ _ _ _ _ _ _ hr => (ev_callM takes_lam o_check_fades (hr.mono (by omega)) (by rfl) T.m_check_fades T.k_check_fades T.b_check_fades (evf_cons (ev_val (ev_lst (eva_cons (ev_tup (eva_cons ev_int (eva_cons ev_int (eva_cons ev_int eva_nil)))) (eva_cons (ev_tup (eva_cons ev_int (eva_cons ev_int (eva_cons ev_int eva_nil)))) eva_nil)))) evf_nil)))) ev_str (by rfl)) (exb_one (ex_ret ev_bl)) exb_nil)
    (exb_one (ex_if (ev_cmpT (op_neD (hu64 hr)) ad_ne (ev_told (k := 1) (Ng := ["what"]) (l := [([], ["BadTable"], "no way"), (["BadTable"], [], "table"), ([], ["BadTable"], "paper")]) (l' := [(Value.ref c_NoWay, "no way"), (Value.ref c_BadTable, "table"), (Value.ref c_BadPaper, "paper")]) T.F_law_told (hr.mono (by omega)) ⟨rfl, T.tb_law, T.tm_law, T.tu_law⟩ (by rfl) (by rfl) T.m_law_told T.b_law_told sc_law_told rfl (.inl rfl) (fun _ => told_many (fun _ _ => (.cons ⟨by rfl, by decide, .inl T.gNoWay⟩ (fun _ _ _ _ _ _ _ => pss_one (ps_ret pe_str)) (.cons ⟨by rfl, by decide, .inl T.gBadTable⟩ (fun _ _ _ _ _ _ _ => pss_one (ps_ret pe_str)) (.cons ⟨by rfl, by decide, .inl T.gBadPaper⟩ (fun _ _ _ _ _ _ _ => pss_one (ps_ret pe_str)) .nil)))) (fun _ => rfl)) (.cons T.yesNoWay T.noNoWay (.cons T.yesBadTable T.noBadTable (.cons T.yesBadPaper T.noBadPaper .nil))) (lamOk_by (own := []) (blkOk_by (N := ["script", "dice", "one", "two", "until", "time", "level", "other", "whole", "here", "now", "begin", "lasts", "stop", "last", "end", "due", "k"]) (sc := defScope s_law) (by decide +kernel)) (by decide +kernel)) sc_law.nd rfl (fun _ _ _ _ _ => rfl) (fun _ _ _ _ _ _ _ hr => (ev_callM takes_lam o_check_fades (hr.mono (by omega)) (by rfl) T.m_check_fades T.k_check_fades T.b_check_fades (evf_cons (ev_val (ev_lst (eva_cons (ev_tup (eva_cons ev_int (eva_cons ev_int (eva_cons ev_int eva_nil)))) eva_nil))) evf_nil)))) ev_str (by rfl)) (exb_one (ex_ret ev_bl)) exb_nil))))))))))))⟩
  obtain ⟨t, hx⟩ := hx
  refine ⟨_, pss_cons (ps_for hp rfl (pi_list (pe_callS o_law_rounds (hr.mono (by omega)) (by rfl) T.m_law_rounds T.k_law_rounds T.b_law_rounds (fun σ => passAt tk σ) (pa_cons (pv 0) (pa_cons pe_int pa_nil)))) (pg_name (i := 1) sc_law.nd rfl (by first | exact Or.inl rfl | exact Or.inr rfl)) hx.pe) (pss_one (ps_ret pe_bl)), ?_⟩
  exact law_read (by decide) hx.sd hlaw rfl rfl hS h63 htb fun H' => q H'
end
theorem all_mk {l : PySem.W.OpenLaw} {w : World} {K : PySem.W.Frag} {h : Heap} {mg : Str → Option Value} {fa : Addr} {cc_law P_law a_part a_check_fades a_level_at a_highest a_light a_changes a_law_dice a_law_roll a_law_rounds a_law_told a_law_fades a_law_level a_law c_BadPaper c_BadTable c_NoWay : Addr} (X : K.In h) (G : h.Ns mainGlobals mg) (hfa : mg "law" = some (.ref fa))
    {od_part an_part od_check_fades an_check_fades od_level_at an_level_at od_highest an_highest od_light an_light od_changes an_changes od_law_dice an_law_dice od_law_roll an_law_roll od_law_rounds an_law_rounds od_law_told an_law_told od_law_fades an_law_fades od_law_level an_law_level od_law an_law : Option Addr} {sl_part sl_check_fades sl_level_at sl_highest sl_light sl_changes sl_law_dice sl_law_roll sl_law_rounds sl_law_told sl_law_fades sl_law_level sl_law : Array (Option Value)} {oc_part kV_part dc_part pm_part ct_part cd_part oc_check_fades kV_check_fades dc_check_fades pm_check_fades ct_check_fades cd_check_fades oc_level_at kV_level_at dc_level_at pm_level_at ct_level_at cd_level_at oc_highest kV_highest dc_highest pm_highest ct_highest cd_highest oc_light kV_light dc_light pm_light ct_light cd_light oc_changes kV_changes dc_changes pm_changes ct_changes cd_changes oc_law_dice kV_law_dice dc_law_dice pm_law_dice ct_law_dice cd_law_dice oc_law_roll kV_law_roll dc_law_roll pm_law_roll ct_law_roll cd_law_roll oc_law_rounds kV_law_rounds dc_law_rounds pm_law_rounds ct_law_rounds cd_law_rounds oc_law_told kV_law_told dc_law_told pm_law_told ct_law_told cd_law_told oc_law_fades kV_law_fades dc_law_fades pm_law_fades ct_law_fades cd_law_fades oc_law_level kV_law_level dc_law_level pm_law_level ct_law_level cd_law_level oc_law kV_law dc_law pm_law ct_law : Value}
    (A_part : PySem.W.nsIn K mainGlobals "part" = some (some (.ref a_part))) (L_part : K.lookup a_part = some ⟨oc_part, od_part, .func (PySem.W.fnOf "part" "part" (defArgs s_part) (defBody s_part) (defScope s_part) .none kV_part dc_part pm_part an_part cd_part ct_part), sl_part⟩) (C_part : PySem.W.codeIn K cd_part "part" = true) (K_part : PySem.W.keepIn K (.ref a_part) = true)
    (A_check_fades : PySem.W.nsIn K mainGlobals "check_fades" = some (some (.ref a_check_fades))) (L_check_fades : K.lookup a_check_fades = some ⟨oc_check_fades, od_check_fades, .func (PySem.W.fnOf "check_fades" "check_fades" (defArgs s_check_fades) (defBody s_check_fades) (defScope s_check_fades) .none kV_check_fades dc_check_fades pm_check_fades an_check_fades cd_check_fades ct_check_fades), sl_check_fades⟩) (C_check_fades : PySem.W.codeIn K cd_check_fades "check_fades" = true) (K_check_fades : PySem.W.keepIn K (.ref a_check_fades) = true)
    (A_level_at : PySem.W.nsIn K mainGlobals "level_at" = some (some (.ref a_level_at))) (L_level_at : K.lookup a_level_at = some ⟨oc_level_at, od_level_at, .func (PySem.W.fnOf "level_at" "level_at" (defArgs s_level_at) (defBody s_level_at) (defScope s_level_at) .none kV_level_at dc_level_at pm_level_at an_level_at cd_level_at ct_level_at), sl_level_at⟩) (C_level_at : PySem.W.codeIn K cd_level_at "level_at" = true) (K_level_at : PySem.W.keepIn K (.ref a_level_at) = true)
    (A_highest : PySem.W.nsIn K mainGlobals "highest" = some (some (.ref a_highest))) (L_highest : K.lookup a_highest = some ⟨oc_highest, od_highest, .func (PySem.W.fnOf "highest" "highest" (defArgs s_highest) (defBody s_highest) (defScope s_highest) .none kV_highest dc_highest pm_highest an_highest cd_highest ct_highest), sl_highest⟩) (C_highest : PySem.W.codeIn K cd_highest "highest" = true) (K_highest : PySem.W.keepIn K (.ref a_highest) = true)
    (A_light : PySem.W.nsIn K mainGlobals "light" = some (some (.ref a_light))) (L_light : K.lookup a_light = some ⟨oc_light, od_light, .func (PySem.W.fnOf "light" "light" (defArgs s_light) (defBody s_light) (defScope s_light) .none kV_light dc_light pm_light an_light cd_light ct_light), sl_light⟩) (C_light : PySem.W.codeIn K cd_light "light" = true) (K_light : PySem.W.keepIn K (.ref a_light) = true)
    (A_changes : PySem.W.nsIn K mainGlobals "changes" = some (some (.ref a_changes))) (L_changes : K.lookup a_changes = some ⟨oc_changes, od_changes, .func (PySem.W.fnOf "changes" "changes" (defArgs s_changes) (defBody s_changes) (defScope s_changes) .none kV_changes dc_changes pm_changes an_changes cd_changes ct_changes), sl_changes⟩) (C_changes : PySem.W.codeIn K cd_changes "changes" = true) (K_changes : PySem.W.keepIn K (.ref a_changes) = true)
    (A_law_dice : PySem.W.nsIn K mainGlobals "_law_dice" = some (some (.ref a_law_dice))) (L_law_dice : K.lookup a_law_dice = some ⟨oc_law_dice, od_law_dice, .func (PySem.W.fnOf "_law_dice" "_law_dice" (defArgs s_law_dice) (defBody s_law_dice) (defScope s_law_dice) .none kV_law_dice dc_law_dice pm_law_dice an_law_dice cd_law_dice ct_law_dice), sl_law_dice⟩) (C_law_dice : PySem.W.codeIn K cd_law_dice "_law_dice" = true) (K_law_dice : PySem.W.keepIn K (.ref a_law_dice) = true)
    (A_law_roll : PySem.W.nsIn K mainGlobals "_law_roll" = some (some (.ref a_law_roll))) (L_law_roll : K.lookup a_law_roll = some ⟨oc_law_roll, od_law_roll, .func (PySem.W.fnOf "_law_roll" "_law_roll" (defArgs s_law_roll) (defBody s_law_roll) (defScope s_law_roll) .none kV_law_roll dc_law_roll pm_law_roll an_law_roll cd_law_roll ct_law_roll), sl_law_roll⟩) (C_law_roll : PySem.W.codeIn K cd_law_roll "_law_roll" = true) (K_law_roll : PySem.W.keepIn K (.ref a_law_roll) = true)
    (A_law_rounds : PySem.W.nsIn K mainGlobals "_law_rounds" = some (some (.ref a_law_rounds))) (L_law_rounds : K.lookup a_law_rounds = some ⟨oc_law_rounds, od_law_rounds, .func (PySem.W.fnOf "_law_rounds" "_law_rounds" (defArgs s_law_rounds) (defBody s_law_rounds) (defScope s_law_rounds) .none kV_law_rounds dc_law_rounds pm_law_rounds an_law_rounds cd_law_rounds ct_law_rounds), sl_law_rounds⟩) (C_law_rounds : PySem.W.codeIn K cd_law_rounds "_law_rounds" = true) (K_law_rounds : PySem.W.keepIn K (.ref a_law_rounds) = true)
    (A_law_told : PySem.W.nsIn K mainGlobals "_law_told" = some (some (.ref a_law_told))) (L_law_told : K.lookup a_law_told = some ⟨oc_law_told, od_law_told, .func (PySem.W.fnOf "_law_told" "_law_told" (defArgs s_law_told) (defBody s_law_told) (defScope s_law_told) .none kV_law_told dc_law_told pm_law_told an_law_told cd_law_told ct_law_told), sl_law_told⟩) (C_law_told : PySem.W.codeIn K cd_law_told "_law_told" = true) (K_law_told : PySem.W.keepIn K (.ref a_law_told) = true)
    (A_law_fades : PySem.W.nsIn K mainGlobals "_law_fades" = some (some (.ref a_law_fades))) (L_law_fades : K.lookup a_law_fades = some ⟨oc_law_fades, od_law_fades, .func (PySem.W.fnOf "_law_fades" "_law_fades" (defArgs s_law_fades) (defBody s_law_fades) (defScope s_law_fades) .none kV_law_fades dc_law_fades pm_law_fades an_law_fades cd_law_fades ct_law_fades), sl_law_fades⟩) (C_law_fades : PySem.W.codeIn K cd_law_fades "_law_fades" = true) (K_law_fades : PySem.W.keepIn K (.ref a_law_fades) = true)
    (A_law_level : PySem.W.nsIn K mainGlobals "_law_level" = some (some (.ref a_law_level))) (L_law_level : K.lookup a_law_level = some ⟨oc_law_level, od_law_level, .func (PySem.W.fnOf "_law_level" "_law_level" (defArgs s_law_level) (defBody s_law_level) (defScope s_law_level) .none kV_law_level dc_law_level pm_law_level an_law_level cd_law_level ct_law_level), sl_law_level⟩) (C_law_level : PySem.W.codeIn K cd_law_level "_law_level" = true) (K_law_level : PySem.W.keepIn K (.ref a_law_level) = true)
    (A_law : PySem.W.nsIn K mainGlobals "law" = some (some (.ref a_law))) (L_law : K.lookup a_law = some ⟨oc_law, od_law, .func (PySem.W.fnOf "law" "law" (defArgs s_law) (defBody s_law) (defScope s_law) .none kV_law dc_law pm_law an_law (.ref cc_law) ct_law), sl_law⟩) (C_law : PySem.W.codeIn K (.ref cc_law) "law" = true) (K_law : PySem.W.keepIn K (.ref a_law) = true)
    {ce_law : Value} {ced_law : Option Addr} {cv_law : Array Value} {csl_law : Array (Option Value)} (M_law : K.lookup cc_law = some ⟨ce_law, ced_law, .fields cv_law, csl_law⟩) (V_law : cv_law[11]? = some (.ref P_law)) (N_law : K.lookup P_law = none)
    (A_BadPaper : PySem.W.nsIn K mainGlobals "BadPaper" = some (some (.ref c_BadPaper))) (B_BadPaper : PySem.W.subIn K (.ref c_BadPaper) (.type "BaseException") = some true) (T_BadPaper : PySem.W.typeIn K (.ref c_BadPaper) = some (.type "type")) (I_BadPaper : PySem.W.isClsIn K c_BadPaper = true)
    (A_BadTable : PySem.W.nsIn K mainGlobals "BadTable" = some (some (.ref c_BadTable))) (X_BadTable : PySem.W.excIn K c_BadTable [.type "ValueError", .type "Exception", .type "BaseException", .type "object"] "ValueError.__new__" = true) (K_BadTable : PySem.W.keepIn K (.ref c_BadTable) = true) (B_BadTable : PySem.W.subIn K (.ref c_BadTable) (.type "BaseException") = some true) (T_BadTable : PySem.W.typeIn K (.ref c_BadTable) = some (.type "type")) (I_BadTable : PySem.W.isClsIn K c_BadTable = true) (S_BadTable : PySem.W.subIn K (.ref c_BadTable) (.ref c_BadTable) = some true)
    (A_NoWay : PySem.W.nsIn K mainGlobals "NoWay" = some (some (.ref c_NoWay))) (B_NoWay : PySem.W.subIn K (.ref c_NoWay) (.type "BaseException") = some true) (T_NoWay : PySem.W.typeIn K (.ref c_NoWay) = some (.type "type")) (I_NoWay : PySem.W.isClsIn K c_NoWay = true)
    (S_BadTable_NoWay : PySem.W.subIn K (.ref c_BadTable) (.ref c_NoWay) = some false)
    (S_BadTable_BadPaper : PySem.W.subIn K (.ref c_BadTable) (.ref c_BadPaper) = some false)
    (Z_abs : PySem.W.nsIn K mainGlobals "abs" = some none)
    (Z_enumerate : PySem.W.nsIn K mainGlobals "enumerate" = some none)
    (Z_int : PySem.W.nsIn K mainGlobals "int" = some none)
    (Z_len : PySem.W.nsIn K mainGlobals "len" = some none)
    (Z_list : PySem.W.nsIn K mainGlobals "list" = some none)
    (Z_max : PySem.W.nsIn K mainGlobals "max" = some none)
    (Z_min : PySem.W.nsIn K mainGlobals "min" = some none)
    (Z_range : PySem.W.nsIn K mainGlobals "range" = some none)
    (Z_sorted : PySem.W.nsIn K mainGlobals "sorted" = some none)
    (Z_tuple : PySem.W.nsIn K mainGlobals "tuple" = some none)
    (HT : ∀ nm ∈ (["law"] : List Str), DefTab K mg h nm)
    (hlaw : ∀ x y z : Int, ∃ ρ', d_law (startLaw 18 x y z) = some (.ok .next, ρ') ∧ ρ'.length = 18) :
    LamX.LawAtS l w K (L2.CX l.prog w) 4 63 "script" mg fa h := by
  have e := hfa.symm.trans (PySem.W.mg_of X G A_law)
  obtain rfl : a_law = fa := by cases e; rfl
  letI tb : Tb := ⟨[(P_law, some nm_law)], []⟩
  have F_part := fun_mk (st := s_part) L_part C_part K_part
  have b_part := F_part.binds (ps := ["over", "under"]) fun _ _ _ _ _ _ us hl => match us, hl with | [_, _], _ => rfl
  have F_check_fades := fun_mk (st := s_check_fades) L_check_fades C_check_fades K_check_fades
  have b_check_fades := F_check_fades.binds (ps := ["fades"]) fun _ _ _ _ _ _ us hl => match us, hl with | [_], _ => rfl
  have F_level_at := fun_mk (st := s_level_at) L_level_at C_level_at K_level_at
  have b_level_at := F_level_at.binds (ps := ["fades", "time"]) fun _ _ _ _ _ _ us hl => match us, hl with | [_, _], _ => rfl
  have F_highest := fun_mk (st := s_highest) L_highest C_highest K_highest
  have b_highest := F_highest.binds (ps := ["many", "time"]) fun _ _ _ _ _ _ us hl => match us, hl with | [_, _], _ => rfl
  have F_light := fun_mk (st := s_light) L_light C_light K_light
  have b_light := F_light.binds (ps := ["fades", "until"]) fun _ _ _ _ _ _ us hl => match us, hl with | [_, _], _ => rfl
  have F_changes := fun_mk (st := s_changes) L_changes C_changes K_changes
  have b_changes := F_changes.binds (ps := ["fades"]) fun _ _ _ _ _ _ us hl => match us, hl with | [_], _ => rfl
  have F_law_dice := fun_mk (st := s_law_dice) L_law_dice C_law_dice K_law_dice
  have b_law_dice := F_law_dice.binds (ps := ["cell"]) fun _ _ _ _ _ _ us hl => match us, hl with | [_], _ => rfl
  have F_law_roll := fun_mk (st := s_law_roll) L_law_roll C_law_roll K_law_roll
  have b_law_roll := F_law_roll.binds (ps := ["dice", "many"]) fun _ _ _ _ _ _ us hl => match us, hl with | [_, _], _ => rfl
  have F_law_rounds := fun_mk (st := s_law_rounds) L_law_rounds C_law_rounds K_law_rounds
  have b_law_rounds := F_law_rounds.binds (ps := ["script", "most"]) fun _ _ _ _ _ _ us hl => match us, hl with | [_, _], _ => rfl
  have F_law_told := fun_mk (st := s_law_told) L_law_told C_law_told K_law_told
  have b_law_told := F_law_told.binds (ps := ["what"]) fun _ _ _ _ _ _ us hl => match us, hl with | [_], _ => rfl
  have F_law_fades := fun_mk (st := s_law_fades) L_law_fades C_law_fades K_law_fades
  have b_law_fades := F_law_fades.binds (ps := ["dice"]) fun _ _ _ _ _ _ us hl => match us, hl with | [_], _ => rfl
  have F_law_level := fun_mk (st := s_law_level) L_law_level C_law_level K_law_level
  have b_law_level := F_law_level.binds (ps := ["fades", "time"]) fun _ _ _ _ _ _ us hl => match us, hl with | [_, _], _ => rfl
  have F_law := fun_mk (st := s_law) L_law C_law K_law
  have b_law := F_law.binds (ps := ["script"]) fun _ _ _ _ _ _ us hl => match us, hl with | [_], _ => rfl
  have H_law := HT "law" (by simp) a_law cc_law P_law _ _ _ _ _ _ (PySem.W.mg_of X G A_law) L_law rfl rfl M_law V_law
  refine ⟨PySem.W.fnOf "law" "law" (defArgs s_law) (defBody s_law) (defScope s_law) .none kV_law dc_law pm_law an_law (.ref cc_law) ct_law, [(cc_law, P_law)], spLaw K, ?_, ?_, ?_, fun s v => .of_eq rfl, ?_, fun base _ _ hB => ?_⟩
  · intro p hp; simp only [List.mem_cons, List.not_mem_nil, or_false] at hp; rcases hp with rfl
    · exact H_law.1
  · intro p hp; simp only [List.mem_cons, List.not_mem_nil, or_false] at hp; rcases hp with rfl
    · exact N_law
  · intro p hp; simp only [List.mem_cons, List.not_mem_nil, or_false] at hp; rcases hp with rfl
    · exact H_law.2
  · intro H a ns hl _ hP hS
    refine ⟨a, ns, rfl, hS, hl, ⟨fun p hp => ?_, fun q hq => by cases hq⟩, fun _ => rfl⟩
    have hp : p ∈ ([(P_law, some nm_law)] : List (Addr × NmF)) := hp
    simp only [List.mem_cons, List.not_mem_nil, or_false] at hp; rcases hp with rfl
    · exact .nil (hP (cc_law, P_law) (by simp))
  have T : Tx K mg base cc_law P_law a_part a_check_fades a_level_at a_highest a_light a_changes a_law_dice a_law_roll a_law_rounds a_law_told a_law_fades a_law_level a_law c_BadPaper c_BadTable c_NoWay (PySem.W.fnOf "part" "part" (defArgs s_part) (defBody s_part) (defScope s_part) .none kV_part dc_part pm_part an_part cd_part ct_part) (PySem.W.fnOf "check_fades" "check_fades" (defArgs s_check_fades) (defBody s_check_fades) (defScope s_check_fades) .none kV_check_fades dc_check_fades pm_check_fades an_check_fades cd_check_fades ct_check_fades) (PySem.W.fnOf "level_at" "level_at" (defArgs s_level_at) (defBody s_level_at) (defScope s_level_at) .none kV_level_at dc_level_at pm_level_at an_level_at cd_level_at ct_level_at) (PySem.W.fnOf "highest" "highest" (defArgs s_highest) (defBody s_highest) (defScope s_highest) .none kV_highest dc_highest pm_highest an_highest cd_highest ct_highest) (PySem.W.fnOf "light" "light" (defArgs s_light) (defBody s_light) (defScope s_light) .none kV_light dc_light pm_light an_light cd_light ct_light) (PySem.W.fnOf "changes" "changes" (defArgs s_changes) (defBody s_changes) (defScope s_changes) .none kV_changes dc_changes pm_changes an_changes cd_changes ct_changes) (PySem.W.fnOf "_law_dice" "_law_dice" (defArgs s_law_dice) (defBody s_law_dice) (defScope s_law_dice) .none kV_law_dice dc_law_dice pm_law_dice an_law_dice cd_law_dice ct_law_dice) (PySem.W.fnOf "_law_roll" "_law_roll" (defArgs s_law_roll) (defBody s_law_roll) (defScope s_law_roll) .none kV_law_roll dc_law_roll pm_law_roll an_law_roll cd_law_roll ct_law_roll) (PySem.W.fnOf "_law_rounds" "_law_rounds" (defArgs s_law_rounds) (defBody s_law_rounds) (defScope s_law_rounds) .none kV_law_rounds dc_law_rounds pm_law_rounds an_law_rounds cd_law_rounds ct_law_rounds) (PySem.W.fnOf "_law_told" "_law_told" (defArgs s_law_told) (defBody s_law_told) (defScope s_law_told) .none kV_law_told dc_law_told pm_law_told an_law_told cd_law_told ct_law_told) (PySem.W.fnOf "_law_fades" "_law_fades" (defArgs s_law_fades) (defBody s_law_fades) (defScope s_law_fades) .none kV_law_fades dc_law_fades pm_law_fades an_law_fades cd_law_fades ct_law_fades) (PySem.W.fnOf "_law_level" "_law_level" (defArgs s_law_level) (defBody s_law_level) (defScope s_law_level) .none kV_law_level dc_law_level pm_law_level an_law_level cd_law_level ct_law_level) (PySem.W.fnOf "law" "law" (defArgs s_law) (defBody s_law) (defScope s_law) .none kV_law dc_law pm_law an_law (.ref cc_law) ct_law) := { abs := PySem.W.mg_none_of X G Z_abs, enumerate := PySem.W.mg_none_of X G Z_enumerate, int := PySem.W.mg_none_of X G Z_int, len := PySem.W.mg_none_of X G Z_len, list := PySem.W.mg_none_of X G Z_list, max := PySem.W.mg_none_of X G Z_max, min := PySem.W.mg_none_of X G Z_min, range := PySem.W.mg_none_of X G Z_range, sorted := PySem.W.mg_none_of X G Z_sorted, tuple := PySem.W.mg_none_of X G Z_tuple, F_part := F_part, m_part := PySem.W.mg_of X G A_part, k_part := K_part, b_part := b_part, F_check_fades := F_check_fades, m_check_fades := PySem.W.mg_of X G A_check_fades, k_check_fades := K_check_fades, b_check_fades := b_check_fades, F_level_at := F_level_at, m_level_at := PySem.W.mg_of X G A_level_at, k_level_at := K_level_at, b_level_at := b_level_at, F_highest := F_highest, m_highest := PySem.W.mg_of X G A_highest, k_highest := K_highest, b_highest := b_highest, F_light := F_light, m_light := PySem.W.mg_of X G A_light, k_light := K_light, b_light := b_light, F_changes := F_changes, m_changes := PySem.W.mg_of X G A_changes, k_changes := K_changes, b_changes := b_changes, F_law_dice := F_law_dice, m_law_dice := PySem.W.mg_of X G A_law_dice, k_law_dice := K_law_dice, b_law_dice := b_law_dice, F_law_roll := F_law_roll, m_law_roll := PySem.W.mg_of X G A_law_roll, k_law_roll := K_law_roll, b_law_roll := b_law_roll, F_law_rounds := F_law_rounds, m_law_rounds := PySem.W.mg_of X G A_law_rounds, k_law_rounds := K_law_rounds, b_law_rounds := b_law_rounds, F_law_told := F_law_told, m_law_told := PySem.W.mg_of X G A_law_told, k_law_told := K_law_told, b_law_told := b_law_told, F_law_fades := F_law_fades, m_law_fades := PySem.W.mg_of X G A_law_fades, k_law_fades := K_law_fades, b_law_fades := b_law_fades, F_law_level := F_law_level, m_law_level := PySem.W.mg_of X G A_law_level, k_law_level := K_law_level, b_law_level := b_law_level, F_law := F_law, m_law := PySem.W.mg_of X G A_law, k_law := K_law, b_law := b_law, yesNoWay := (fun n hn => by cases hn), noNoWay := (fun n hn cls hc => by simp only [List.mem_cons, List.not_mem_nil, or_false] at hn; rcases hn with rfl; · rw [PySem.W.mg_of X G A_BadTable] at hc; cases hc; exact exm_two B_NoWay I_NoWay T_NoWay S_BadTable_NoWay), yesBadTable := (fun n hn cls hc => by simp only [List.mem_cons, List.not_mem_nil, or_false] at hn; rcases hn with rfl; · rw [PySem.W.mg_of X G A_BadTable] at hc; cases hc; exact exm_two B_BadTable I_BadTable T_BadTable S_BadTable), noBadTable := (fun n hn => by cases hn), yesBadPaper := (fun n hn => by cases hn), noBadPaper := (fun n hn cls hc => by simp only [List.mem_cons, List.not_mem_nil, or_false] at hn; rcases hn with rfl; · rw [PySem.W.mg_of X G A_BadTable] at hc; cases hc; exact exm_two B_BadPaper I_BadPaper T_BadPaper S_BadTable_BadPaper), gBadPaper := PySem.W.mg_of X G A_BadPaper, gBadTable := PySem.W.mg_of X G A_BadTable, xBadTable := X_BadTable, kBadTable := K_BadTable, bBadTable := B_BadTable, tBadTable := T_BadTable, yBadTable := fun n hn cls hc => by rw [List.mem_singleton.mp hn, PySem.W.mg_of X G A_BadTable] at hc; cases hc; exact exm_two B_BadTable I_BadTable T_BadTable S_BadTable, gNoWay := PySem.W.mg_of X G A_NoWay, tb_law := hB (cc_law, P_law) (by simp), cf_law := rfl, tm_law := (show (P_law, some nm_law) ∈ ([(P_law, some nm_law)] : List (Addr × NmF)) from by simp), tu_law := (fun p (hp : p ∈ ([(P_law, some nm_law)] : List (Addr × NmF))) hP g hg => by simp only [List.mem_cons, List.not_mem_nil, or_false] at hp; subst hp;first | (cases hg; rfl) | (exact absurd hP (by first | assumption | exact Ne.symm (by assumption)))) }
  have o_law_dice := ok_law_dice (P := l.prog) (w := w) (base := base) T
  have o_law_rounds := ok_law_rounds (P := l.prog) (w := w) (base := base) T o_law_dice
  have o_part := ok_part (P := l.prog) (w := w) (base := base) T 
  have o_check_fades := ok_check_fades (P := l.prog) (w := w) (base := base) T 
  have o_level_at := ok_level_at (P := l.prog) (w := w) (base := base) T o_check_fades o_part
  have o_highest := ok_highest (P := l.prog) (w := w) (base := base) T o_level_at
  have o_light := ok_light (P := l.prog) (w := w) (base := base) T o_check_fades o_level_at o_part
  have o_changes := ok_changes (P := l.prog) (w := w) (base := base) T 
  have o_law_roll := ok_law_roll (P := l.prog) (w := w) (base := base) T 
  have o_law_fades := ok_law_fades (P := l.prog) (w := w) (base := base) T o_law_roll
  have o_law_level := ok_law_level (P := l.prog) (w := w) (base := base) T 
  exact ok_law (P := l.prog) (w := w) (base := base) T o_law_rounds o_law_fades o_law_roll o_law_level o_level_at o_part o_highest o_light o_changes o_check_fades hlaw
theorem walk {l : PySem.W.OpenLaw} {q : Program} {loose : List Str} {XP : (Str → Option Value) → Heap → Prop} {YP : World → Heap → Prop} {d : DefRec} {K : Params → PySem.W.Frag} (hn : l.most = some 63) (hdf : d.params.defaults = [])
    (hrec : ((["law"] : List Str).all fun nm => (PyProof.Rows.recsOf q).any fun e => e.name == nm) = true) (hY : ∀ (w : World) (h : Heap), YP w h → (K w.params).In h)
    (F : ∀ (w : World) (mg : Str → Option Value) (fa : Addr) (h : Heap), (K w.params).In h → h.Ns mainGlobals mg → mg d.name = some (.ref fa) → (∀ nm ∈ (["law"] : List Str), DefTab (K w.params) mg h nm) → LamX.LawAtS l w (K w.params) (L2.CX l.prog w) 4 63 "script" mg fa h) :
    PySem.W.WalkO q loose XP YP l.row.toRowW d [] (fun f vs => PySem.call f vs) :=
  walk_ofMany (n := 63) (k := 4) (x := "script") (CX := fun w => L2.CX l.prog w) (["law"] : List Str) hn (by decide) hdf ⟨rfl, by decide, by decide⟩ (fun nm h => List.all_eq_true.mp hrec nm h) hY F fun _ _ _ _ _ z => by
    obtain ⟨_, _, _, _, _, _, _, _, _, _, _, _, z⟩ := z
    exact z
end K15

namespace K15
/-! ### fractions in least terms -/
def rN (a b : Int) : Int := a / (Int.gcd a b : Int)
def rD (a b : Int) : Int := b / (Int.gcd a b : Int)
theorem gcd_pos {a b : Int} (h : 0 < b) : 0 < (Int.gcd a b : Int) := by
  have : Int.gcd a b ≠ 0 := fun z => by
    rw [Int.gcd_eq_zero_iff] at z
    omega
  omega
theorem red_eq {a b c d : Int} (hb : 0 < b) (hd : 0 < d) (h : a * d = c * b) : rN a b = rN c d ∧ rD a b = rD c d := by
  have e1 : (Int.gcd (a * d) (b * d) : Int) = Int.gcd a b * d := by
    rw [Int.gcd_mul_right]
    have : (d.natAbs : Int) = d := Int.natAbs_of_nonneg (by omega)
    rw [Int.natCast_mul, this]
  have e2 : (Int.gcd (c * b) (d * b) : Int) = Int.gcd c d * b := by
    rw [Int.gcd_mul_right]
    have : (b.natAbs : Int) = b := Int.natAbs_of_nonneg (by omega)
    rw [Int.natCast_mul, this]
  have e3 : (Int.gcd a b : Int) * d = Int.gcd c d * b := by
    rw [← e1, ← e2, h, Int.mul_comm b d]
  unfold rN rD
  constructor
  · rw [← Int.mul_ediv_mul_of_pos_left a (Int.gcd a b : Int) hd, ← Int.mul_ediv_mul_of_pos_left c (Int.gcd c d : Int) hb, h, e3]
  · rw [← Int.mul_ediv_mul_of_pos_left b (Int.gcd a b : Int) hd, ← Int.mul_ediv_mul_of_pos_left d (Int.gcd c d : Int) hb, e3, Int.mul_comm b d]
/-- fractions are told by their least terms -/
theorem red_cross {a b : Int} (hb : 0 < b) : rN a b * b = a * rD a b ∧ 0 < rD a b ∧ rD a b ≤ b := by
  have hg := gcd_pos (a := a) hb
  have d1 : (Int.gcd a b : Int) ∣ a := Int.gcd_dvd_left ..
  have d2 : (Int.gcd a b : Int) ∣ b := Int.gcd_dvd_right ..
  obtain ⟨x, hx⟩ := d1
  obtain ⟨y, hy⟩ := d2
  have e1 : rN a b = x := by
    unfold rN
    conv => lhs; lhs; rw [hx]
    exact Int.mul_ediv_cancel_left _ (by omega)
  have e2 : rD a b = y := by
    unfold rD
    conv => lhs; lhs; rw [hy]
    exact Int.mul_ediv_cancel_left _ (by omega)
  have hy0 : 0 < y := by
    rcases Int.lt_trichotomy y 0 with z | z | z
    · have : (Int.gcd a b : Int) * y < 0 := Int.mul_neg_of_pos_of_neg hg z
      omega
    · rw [z] at hy; omega
    · exact z
  refine ⟨?_, by rw [e2]; exact hy0, ?_⟩
  · rw [e1, e2]
    conv => lhs; rhs; rw [hy]
    conv => rhs; lhs; rw [hx]
    rw [← Int.mul_assoc, Int.mul_comm x]
  · rw [e2]
    conv => rhs; rw [hy]
    have : 1 * y ≤ (Int.gcd a b : Int) * y := Int.mul_le_mul_of_nonneg_right (by omega) (by omega)
    omega
/-! ### fades -/
abbrev Fd := Int × Int × Int
def Okf : Int → List Fd → Prop
  | _, [] => True
  | t, f :: fs => t ≤ f.1 ∧ f.1 ≤ 1000 ∧ 0 ≤ f.2.1 ∧ f.2.1 ≤ 4 ∧ 0 ≤ f.2.2 ∧ f.2.2 ≤ 100 ∧ Okf (f.1 + f.2.1) fs
def stepL (t h : Int) (f : Fd) : Int := if f.1 ≤ t then (if f.2.1 = 0 ∨ min (t - f.1) f.2.1 = f.2.1 then 60 * f.2.2 else h + ((60 * f.2.2 - h) * min (t - f.1) f.2.1) / f.2.1) else h
def lv (t : Int) : Int → List Fd → Int
  | h, [] => h
  | h, f :: fs => lv t (stepL t h f) fs
theorem lv_late {t : Int} : ∀ {fs : List Fd} {t0 h : Int}, t < t0 → Okf t0 fs → lv t h fs = h
  | [], _, _, _, _ => rfl
  | f :: fs, t0, h, ht, ok => by
    obtain ⟨h1, h2, h3, h4, h5, h6, h7⟩ := ok
    have e : stepL t h f = h := by unfold stepL; rw [if_neg (by omega)]
    rw [lv, e]
    exact lv_late (t0 := f.1 + f.2.1) (by omega) h7
theorem stepL_done {t h : Int} {f : Fd} (h0 : 0 ≤ f.2.1) (h1 : f.1 + f.2.1 ≤ t) : stepL t h f = 60 * f.2.2 := by
  unfold stepL
  rw [if_pos (by omega), if_pos (.inr (by omega))]
theorem stepL_mid {t h : Int} {f : Fd} (h0 : f.1 ≤ t) (h1 : t < f.1 + f.2.1) (h4 : f.2.1 ≤ 4) : stepL t (60 * h) f * f.2.1 = (h * f.2.1 + (f.2.2 - h) * (t - f.1)) * 60 := by
  unfold stepL
  rw [if_pos h0, if_neg (by omega), Int.min_eq_left (by omega)]
  have hl : f.2.1 = 1 ∨ f.2.1 = 2 ∨ f.2.1 = 3 ∨ f.2.1 = 4 := by omega
  have key : ∀ (l q x : Int), 60 = l * q → 0 < l → (60 * h + ((60 * f.2.2 - 60 * h) * x) / l) * l = (h * l + (f.2.2 - h) * x) * 60 := fun l q x e hl0 => by
    have e2 : (60 * f.2.2 - 60 * h) * x = l * (q * ((f.2.2 - h) * x)) := by
      rw [← Int.mul_assoc, ← e, ← Int.mul_sub, Int.mul_assoc]
    rw [e2, Int.mul_ediv_cancel_left _ (by omega), Int.add_mul, Int.add_mul]
    congr 1
    · rw [Int.mul_comm 60 h, Int.mul_assoc, Int.mul_comm 60 l, ← Int.mul_assoc]
    · rw [Int.mul_comm (q * _) l, ← Int.mul_assoc, ← e, Int.mul_comm]
  rcases hl with e | e | e | e <;> rw [e]
  · exact key 1 60 _ (by decide) (by decide)
  · exact key 2 30 _ (by decide) (by decide)
  · exact key 3 20 _ (by decide) (by decide)
  · exact key 4 15 _ (by decide) (by decide)
end K15
namespace K15
theorem stepL_in {t h : Int} {f : Fd} (h0 : 0 ≤ h ∧ h ≤ 6000) (a1 : 0 ≤ f.2.1) (a3 : 0 ≤ f.2.2) (a4 : f.2.2 ≤ 100) : 0 ≤ stepL t h f ∧ stepL t h f ≤ 6000 := by
  unfold stepL
  split
  · rename_i hb
    split
    · omega
    · rename_i hn
      have hl : 0 < f.2.1 := by omega
      have hg0 : 0 ≤ min (t - f.1) f.2.1 := by omega
      have hg1 : min (t - f.1) f.2.1 ≤ f.2.1 := by omega
      generalize min (t - f.1) f.2.1 = g at *
      generalize hx : 60 * f.2.2 - h = x at *
      by_cases hx0 : 0 ≤ x
      · have u1 : x * g / f.2.1 ≤ x := Int.ediv_le_of_le_mul hl (Int.mul_le_mul_of_nonneg_left hg1 hx0)
        have u2 : 0 ≤ x * g / f.2.1 := Int.ediv_nonneg (Int.mul_nonneg hx0 hg0) (by omega)
        omega
      · have u1 : x ≤ x * g / f.2.1 := Int.le_ediv_of_mul_le hl (Int.mul_le_mul_of_nonpos_left (by omega) hg1)
        have u2 : x * g / f.2.1 ≤ 0 := by
          refine Int.ediv_le_of_le_mul hl ?_
          rw [Int.zero_mul]
          exact Int.mul_nonpos_of_nonpos_of_nonneg (by omega) hg0
        omega
  · exact h0
theorem lv_in (t : Int) : ∀ (fs : List Fd) (h : Int), 0 ≤ h ∧ h ≤ 6000 → (∀ f ∈ fs, 0 ≤ f.2.1 ∧ f.2.1 ≤ 4 ∧ 0 ≤ f.2.2 ∧ f.2.2 ≤ 100) → 0 ≤ lv t h fs ∧ lv t h fs ≤ 6000
  | [], h, h0, _ => h0
  | f :: fs, h, h0, hs => by
    obtain ⟨a, b, c, d⟩ := hs f List.mem_cons_self
    rw [lv]
    exact lv_in t fs _ (stepL_in h0 a c d) fun g hg => hs g (List.mem_cons_of_mem _ hg)
theorem rN_le {a b : Int} (hb : 0 < b) (ha : 0 ≤ a) : 0 ≤ rN a b ∧ rN a b ≤ a := by
  have hg := gcd_pos (a := a) hb
  unfold rN
  refine ⟨Int.ediv_nonneg ha (by omega), Int.ediv_le_self _ ha⟩
theorem cmp_red {a b : Int} : (rN a 60 * rD b 60 > rN b 60 * rD a 60) ↔ a > b := by
  obtain ⟨h1, h2, _⟩ := red_cross (a := a) (b := 60) (by decide)
  obtain ⟨h3, h4, _⟩ := red_cross (a := b) (b := 60) (by decide)
  have hpq : 0 < rD a 60 * rD b 60 := Int.mul_pos h2 h4
  have e1 : rN a 60 * rD b 60 * 60 = a * (rD a 60 * rD b 60) := by
    rw [Int.mul_right_comm, h1, Int.mul_assoc]
  have e2 : rN b 60 * rD a 60 * 60 = b * (rD a 60 * rD b 60) := by
    rw [Int.mul_right_comm, h3, Int.mul_assoc, Int.mul_comm (rD b 60)]
  constructor
  · intro h
    have h5 : b * (rD a 60 * rD b 60) < a * (rD a 60 * rD b 60) := by omega
    exact Int.lt_of_mul_lt_mul_right h5 (by omega)
  · intro h
    have h5 : b * (rD a 60 * rD b 60) < a * (rD a 60 * rD b 60) := Int.mul_lt_mul_of_pos_right h hpq
    omega
/-! ### the light -/
/-- the law's own sum: whole, here, now -/
def wS (u : Int) (fs0 : List Fd) (s : Int × Int × Int) (f : Fd) : Int × Int × Int :=
  let stop := min u f.1
  let w1 := s.1 + 120 * s.2.1 * max 0 (stop - s.2.2)
  let n1 := max s.2.2 stop
  let last := min u (f.1 + f.2.1)
  if f.1 < u then (w1 + (60 * s.2.1 + (if last < f.1 + f.2.1 then lv last 0 fs0 else 60 * f.2.2)) * (last - f.1), f.2.2, last) else (w1, s.2.1, n1)
def wF (u : Int) (s : Int × Int × Int) : Int := s.1 + 120 * s.2.1 * max 0 (u - s.2.2)
/-- behind the end nothing is added -/
theorem w_late {u : Int} {fs0 : List Fd} : ∀ (l : List Fd) (s : Int × Int × Int) (t0 : Int), u ≤ t0 → s.2.2 ≤ u → Okf t0 l → wF u (l.foldl (wS u fs0) s) = wF u s
  | [], s, t0, _, _, _ => rfl
  | f :: l, s, t0, ht, hn, ok => by
    obtain ⟨a1, a2, a3, a4, a5, a6, ok'⟩ := ok
    rw [List.foldl_cons, w_late l _ (f.1 + f.2.1) (by omega) (by unfold wS; rw [if_neg (by omega)]; show max s.2.2 (min u f.1) ≤ u; omega) ok']
    unfold wS wF
    rw [if_neg (by omega)]
    show s.1 + 120 * s.2.1 * max 0 (min u f.1 - s.2.2) + 120 * s.2.1 * max 0 (u - max s.2.2 (min u f.1)) = _
    rw [show min u f.1 = u by omega, show max s.2.2 u = u by omega, show max 0 (u - u) = 0 by omega]
    omega
end K15

namespace K15
open PySem L2 L3
section
variable [Tb]
def FD (f : Fd) : D := .tup [.int f.1, .int f.2.1, .int f.2.2]
def FV (fs : List Fd) : D := .lst (fs.map FD)
def rd (a b : Int) : D := .tup [.int (rN a b), .int (rD a b)]
theorem abs_N (a : Int) : gAbs [.int a] = some (.val (iN a.natAbs)) := by
  unfold iN
  rw [gAbs_int]
  refine congrArg (fun z => some (R.val (D.int z))) ?_
  split <;> omega
theorem gMod_N (x y : Nat) (h : y ≠ 0) : gMod (iN x) (iN y) = some (.val (iN (x % y))) := by
  unfold iN
  rw [gMod_int (by omega), Int.fmod_eq_emod_of_nonneg _ (by omega)]
  rfl
theorem gNe_0 (y : Nat) : gNe (iN y) (.int 0) = some (.val (.bl (!decide (y = 0)))) := by
  unfold iN
  rw [gNe_int]
  by_cases h : y = 0
  · subst h; rfl
  · have : ¬ ((y : Int) = 0) := by omega
    simp [h, this]
def pTest : M Bool := (fTest (fBin gNe (fVar 3) (fC (.int 0))))
def pBody : M Fl := (fPar [(2, false), (3, false)] (fCons (fVar 3) (fCons (fBin gMod (fVar 2) (fVar 3)) fNil)))
theorem part_run {a b : Int} (hb : 0 < b) (hb2 : b < 1000000000) : g_part [.int a, .int b] = some (.ok (rd a b), []) := by
  have hs : startD 4 [] [.int a, .int b] = [some (.sh (.int a)), some (.sh (.int b)), none, none] := rfl
  obtain ⟨ρ', h1, rfl⟩ := fWhile_inv (c := pTest) (body := pBody) (fun m ρ => ∃ x y : Nat, ρ = [some (.sh (.int a)), some (.sh (.int b)), some (.sh (iN x)), some (.sh (iN y))] ∧ y = m ∧ Nat.gcd x y = Int.gcd a b) (fun ρ => ρ = [some (.sh (.int a)), some (.sh (.int b)), some (.sh (iN (Int.gcd a b))), some (.sh (iN 0))]) (by
      rintro m ρ ⟨x, y, rfl, rfl, hg⟩
      by_cases hy : y = 0
      · refine .inl ⟨?_, ?_⟩
        · simp only [bT_ok, bT_err, bT_none, bind_ap, pure_ap, of_ap, ofT_some, ofT_none, at0_zero, at0_succ, var_ap, vT_sh, vT_ow, vT_io, cont_ap, cT_ow, cT_io, deref_val, deref_fresh, deref_slot, stab_val, stab_fresh, set0_zero, set0_succ, setC_ap, scT_ow, scT_io, fC_ap, binT_some, binK2_ap, binK1_ap, bin_ap, testT_bl, testK_ap, test_ap, truT_some, truK_ap, truth_ap, andK_t, andK_f, and_ap, orK_f, orK_t, or_ap, notK_ap, not_ap, ifK_t, ifK_f, if_ap, ifS_ap, andVT_t, andVT_f, andVK_ap, andV_ap, orVT_f, orVT_t, orVK_ap, orV_ap, notVT_bl, notVK_ap, notV_ap, chK3_ap, chT0_some, chT_t, chT_f, chK2_ap, chK1_ap, chain_ap, nil_ap, consK2_ap, consK1_ap, cons_ap, cons2_some, stabs_nil, stabs_cons, derefs_nil, derefs_cons, tupK_ap, tup_ap, lstK_ap, lst_ap, tupT_0, tupT_1, tupT_2, tupT_3, lstT_0, lstT_1, lstT_2, lstT_3, cbT_some, cbK_ap, cb_ap, mtT2_some, mtK2_ap, mtK_ap, mt_ap, ty_lst, mutT3_some, mutT2_some, mutK2_ap, mutT0_slot, mut_ap, slT_some, slK3_ap, slK2_ap, slK1_ap, sl_ap, intT_int, partK_ap, part_ap, rg1T_int, rg1K_ap, rg1_ap, rg2T_int, rg2K2_ap, rg2K1_ap, rg2_ap, lrK_ap, listRg_ap, next_ap, seq_ap, sqT_next, sqT_ret, sqT_brk, sqT_cont, sqT_err, dropK_ap, drop_ap, retT_some, retK_ap, ret_ap, retD_val, retD_fresh, owT_ow, retD_slot, io0_n, io0_sh, io0_ow, io0_succ, noIo_ap, asg_nil, asg_cons, asT2_some, asg_valF, asg_freF, asg_freL, asg_freK, asg_freT, parT_some, parK_ap, par_ap, valT_some, valK_ap, val_ap, stT2_some, stT_some, stT0_slot, stK3_ap, stK2_ap, stK1_ap, store_ap, auT3_some, auK3_ap, auT2_some, auT1_some, auT0_slot, auK2_ap, auK1_ap, augS_ap, augT2_int, augK_ap, augT_int, aug_ap, itLT_lst, itLK_ap, itL_ap, itTT_tup, itTK_ap, itT_ap, itR1T_int, itR1K_ap, itR1_ap, itR2T_int, itR2K_ap, itR2_ap, for_ap, lcT_some, lcK_ap, lc_ap, clK_ap, call_ap, clT0_some, clT_ok, clT_err, raise_ap, try_ap, tryT_err, tryT_ok, noErr_ap, neT_ok, share_ap, shT_ow, mkG_ap, enT_ret, enT_next, enT_err, outs_nil, outs_cons, ouT_io, gEq_int, gNe_int, gAdd_int, gSub_int, gLt_int, gLe_int, gGt_int, gGe_int, gInt_int, gAbs_int, gIx_lst, gIx_tup, gLen_lst, gLen_tup, gLen_dK, gTupleOf_lst, gTupleOf_tup, gListOf_lst, gListOf_tup, set_ap, tg_ap, wipe_nil, wipe_cons, pb_nil, pb_cons, noOwn_ap, noT_none, noT_sh, putC_nil, putC_cons, ioL_nil, ioL_cons, ioLT_slot, ioLT_fresh, argOk_nil, argOk_val, argOk_fresh, argOk_slot, clT0_some, List.all_cons, List.all_nil, Bool.and_true, Bool.true_and, Bool.and_self, Bool.not_false, Bool.not_true, eq_self, if_true, if_false, and_true, true_and, and_self, List.length_cons, List.length_nil, List.mem_cons, List.not_mem_nil, or_false, false_or, true_or, decide_true, decide_false, forall_eq, List.getElem?_cons_zero, List.getElem?_cons_succ, Option.map_some, ty_lst, Nat.zero_add, not_false_eq_true, implies_true, false_implies, Nat.lt_add_one, Nat.zero_lt_succ, Nat.reduceLT, Nat.reduceAdd, Nat.reduceEqDiff, mutT_LN, mtT_LN, mutT_lst, mtT_lst, pTest, gNe_0, hy]
        · rw [hy, Nat.gcd_zero_right] at hg
          rw [hy, hg]
      · refine .inr ⟨?_, [some (.sh (.int a)), some (.sh (.int b)), some (.sh (iN y)), some (.sh (iN (x % y)))], x % y, ?_, Nat.mod_lt _ (by omega), y, x % y, rfl, rfl, ?_⟩
        · simp only [bT_ok, bT_err, bT_none, bind_ap, pure_ap, of_ap, ofT_some, ofT_none, at0_zero, at0_succ, var_ap, vT_sh, vT_ow, vT_io, cont_ap, cT_ow, cT_io, deref_val, deref_fresh, deref_slot, stab_val, stab_fresh, set0_zero, set0_succ, setC_ap, scT_ow, scT_io, fC_ap, binT_some, binK2_ap, binK1_ap, bin_ap, testT_bl, testK_ap, test_ap, truT_some, truK_ap, truth_ap, andK_t, andK_f, and_ap, orK_f, orK_t, or_ap, notK_ap, not_ap, ifK_t, ifK_f, if_ap, ifS_ap, andVT_t, andVT_f, andVK_ap, andV_ap, orVT_f, orVT_t, orVK_ap, orV_ap, notVT_bl, notVK_ap, notV_ap, chK3_ap, chT0_some, chT_t, chT_f, chK2_ap, chK1_ap, chain_ap, nil_ap, consK2_ap, consK1_ap, cons_ap, cons2_some, stabs_nil, stabs_cons, derefs_nil, derefs_cons, tupK_ap, tup_ap, lstK_ap, lst_ap, tupT_0, tupT_1, tupT_2, tupT_3, lstT_0, lstT_1, lstT_2, lstT_3, cbT_some, cbK_ap, cb_ap, mtT2_some, mtK2_ap, mtK_ap, mt_ap, ty_lst, mutT3_some, mutT2_some, mutK2_ap, mutT0_slot, mut_ap, slT_some, slK3_ap, slK2_ap, slK1_ap, sl_ap, intT_int, partK_ap, part_ap, rg1T_int, rg1K_ap, rg1_ap, rg2T_int, rg2K2_ap, rg2K1_ap, rg2_ap, lrK_ap, listRg_ap, next_ap, seq_ap, sqT_next, sqT_ret, sqT_brk, sqT_cont, sqT_err, dropK_ap, drop_ap, retT_some, retK_ap, ret_ap, retD_val, retD_fresh, owT_ow, retD_slot, io0_n, io0_sh, io0_ow, io0_succ, noIo_ap, asg_nil, asg_cons, asT2_some, asg_valF, asg_freF, asg_freL, asg_freK, asg_freT, parT_some, parK_ap, par_ap, valT_some, valK_ap, val_ap, stT2_some, stT_some, stT0_slot, stK3_ap, stK2_ap, stK1_ap, store_ap, auT3_some, auK3_ap, auT2_some, auT1_some, auT0_slot, auK2_ap, auK1_ap, augS_ap, augT2_int, augK_ap, augT_int, aug_ap, itLT_lst, itLK_ap, itL_ap, itTT_tup, itTK_ap, itT_ap, itR1T_int, itR1K_ap, itR1_ap, itR2T_int, itR2K_ap, itR2_ap, for_ap, lcT_some, lcK_ap, lc_ap, clK_ap, call_ap, clT0_some, clT_ok, clT_err, raise_ap, try_ap, tryT_err, tryT_ok, noErr_ap, neT_ok, share_ap, shT_ow, mkG_ap, enT_ret, enT_next, enT_err, outs_nil, outs_cons, ouT_io, gEq_int, gNe_int, gAdd_int, gSub_int, gLt_int, gLe_int, gGt_int, gGe_int, gInt_int, gAbs_int, gIx_lst, gIx_tup, gLen_lst, gLen_tup, gLen_dK, gTupleOf_lst, gTupleOf_tup, gListOf_lst, gListOf_tup, set_ap, tg_ap, wipe_nil, wipe_cons, pb_nil, pb_cons, noOwn_ap, noT_none, noT_sh, putC_nil, putC_cons, ioL_nil, ioL_cons, ioLT_slot, ioLT_fresh, argOk_nil, argOk_val, argOk_fresh, argOk_slot, clT0_some, List.all_cons, List.all_nil, Bool.and_true, Bool.true_and, Bool.and_self, Bool.not_false, Bool.not_true, eq_self, if_true, if_false, and_true, true_and, and_self, List.length_cons, List.length_nil, List.mem_cons, List.not_mem_nil, or_false, false_or, true_or, decide_true, decide_false, forall_eq, List.getElem?_cons_zero, List.getElem?_cons_succ, Option.map_some, ty_lst, Nat.zero_add, not_false_eq_true, implies_true, false_implies, Nat.lt_add_one, Nat.zero_lt_succ, Nat.reduceLT, Nat.reduceAdd, Nat.reduceEqDiff, mutT_LN, mtT_LN, mutT_lst, mtT_lst, pTest, gNe_0, hy]
        · simp only [bT_ok, bT_err, bT_none, bind_ap, pure_ap, of_ap, ofT_some, ofT_none, at0_zero, at0_succ, var_ap, vT_sh, vT_ow, vT_io, cont_ap, cT_ow, cT_io, deref_val, deref_fresh, deref_slot, stab_val, stab_fresh, set0_zero, set0_succ, setC_ap, scT_ow, scT_io, fC_ap, binT_some, binK2_ap, binK1_ap, bin_ap, testT_bl, testK_ap, test_ap, truT_some, truK_ap, truth_ap, andK_t, andK_f, and_ap, orK_f, orK_t, or_ap, notK_ap, not_ap, ifK_t, ifK_f, if_ap, ifS_ap, andVT_t, andVT_f, andVK_ap, andV_ap, orVT_f, orVT_t, orVK_ap, orV_ap, notVT_bl, notVK_ap, notV_ap, chK3_ap, chT0_some, chT_t, chT_f, chK2_ap, chK1_ap, chain_ap, nil_ap, consK2_ap, consK1_ap, cons_ap, cons2_some, stabs_nil, stabs_cons, derefs_nil, derefs_cons, tupK_ap, tup_ap, lstK_ap, lst_ap, tupT_0, tupT_1, tupT_2, tupT_3, lstT_0, lstT_1, lstT_2, lstT_3, cbT_some, cbK_ap, cb_ap, mtT2_some, mtK2_ap, mtK_ap, mt_ap, ty_lst, mutT3_some, mutT2_some, mutK2_ap, mutT0_slot, mut_ap, slT_some, slK3_ap, slK2_ap, slK1_ap, sl_ap, intT_int, partK_ap, part_ap, rg1T_int, rg1K_ap, rg1_ap, rg2T_int, rg2K2_ap, rg2K1_ap, rg2_ap, lrK_ap, listRg_ap, next_ap, seq_ap, sqT_next, sqT_ret, sqT_brk, sqT_cont, sqT_err, dropK_ap, drop_ap, retT_some, retK_ap, ret_ap, retD_val, retD_fresh, owT_ow, retD_slot, io0_n, io0_sh, io0_ow, io0_succ, noIo_ap, asg_nil, asg_cons, asT2_some, asg_valF, asg_freF, asg_freL, asg_freK, asg_freT, parT_some, parK_ap, par_ap, valT_some, valK_ap, val_ap, stT2_some, stT_some, stT0_slot, stK3_ap, stK2_ap, stK1_ap, store_ap, auT3_some, auK3_ap, auT2_some, auT1_some, auT0_slot, auK2_ap, auK1_ap, augS_ap, augT2_int, augK_ap, augT_int, aug_ap, itLT_lst, itLK_ap, itL_ap, itTT_tup, itTK_ap, itT_ap, itR1T_int, itR1K_ap, itR1_ap, itR2T_int, itR2K_ap, itR2_ap, for_ap, lcT_some, lcK_ap, lc_ap, clK_ap, call_ap, clT0_some, clT_ok, clT_err, raise_ap, try_ap, tryT_err, tryT_ok, noErr_ap, neT_ok, share_ap, shT_ow, mkG_ap, enT_ret, enT_next, enT_err, outs_nil, outs_cons, ouT_io, gEq_int, gNe_int, gAdd_int, gSub_int, gLt_int, gLe_int, gGt_int, gGe_int, gInt_int, gAbs_int, gIx_lst, gIx_tup, gLen_lst, gLen_tup, gLen_dK, gTupleOf_lst, gTupleOf_tup, gListOf_lst, gListOf_tup, set_ap, tg_ap, wipe_nil, wipe_cons, pb_nil, pb_cons, noOwn_ap, noT_none, noT_sh, putC_nil, putC_cons, ioL_nil, ioL_cons, ioLT_slot, ioLT_fresh, argOk_nil, argOk_val, argOk_fresh, argOk_slot, clT0_some, List.all_cons, List.all_nil, Bool.and_true, Bool.true_and, Bool.and_self, Bool.not_false, Bool.not_true, eq_self, if_true, if_false, and_true, true_and, and_self, List.length_cons, List.length_nil, List.mem_cons, List.not_mem_nil, or_false, false_or, true_or, decide_true, decide_false, forall_eq, List.getElem?_cons_zero, List.getElem?_cons_succ, Option.map_some, ty_lst, Nat.zero_add, not_false_eq_true, implies_true, false_implies, Nat.lt_add_one, Nat.zero_lt_succ, Nat.reduceLT, Nat.reduceAdd, Nat.reduceEqDiff, mutT_LN, mtT_LN, mutT_lst, mtT_lst, pBody, gMod_N x y hy]
        · rw [Nat.gcd_comm y, ← Nat.gcd_rec, Nat.gcd_comm, hg]) 1000000000 b.natAbs [some (.sh (.int a)), some (.sh (.int b)), some (.sh (iN a.natAbs)), some (.sh (iN b.natAbs))] ⟨_, _, rfl, rfl, rfl⟩ (by omega)
  have hgp := gcd_pos (a := a) hb
  have hgl : (Int.gcd a b : Int) ≤ b := Int.le_of_dvd hb (Int.gcd_dvd_right ..)
  have g0 : gLt (.int b) (.int 0) = some (.val (.bl false)) := by rw [gLt_int, decide_eq_false (by omega)]
  have gd : ∀ z : Int, gDiv (.int z) (iN (Int.gcd a b)) = some (.val (.int (z / (Int.gcd a b : Int)))) := fun z => by
    unfold iN
    rw [gDiv_int (by omega) (by omega), Int.fdiv_eq_ediv_of_nonneg _ (by omega)]
  have hd : d_part = (fSeq (fPar [(2, false), (3, false)] (fCons (fCB gAbs (fCons (fVar 0) fNil)) (fCons (fCB gAbs (fCons (fVar 1) fNil)) fNil)))
    (fSeq (fWhile pTest pBody 1000000000)
    (fSeq (fIfS (fTest (fBin gLt (fVar 1) (fC (.int 0)))) (fPar [(2, false)] (fCons (fNeg (fVar 2)) fNil)) fNext)
    (fRet (fTup (fCons (fBin gDiv (fVar 0) (fVar 2)) (fCons (fBin gDiv (fVar 1) (fVar 2)) fNil))))))) := rfl
  have gab : ∀ z : Int, gAbs [.int z] = some (.val (iN z.natAbs)) := abs_N
  have hEq : ∀ ρ, (fPar [(2, false), (3, false)] (fCons (fCB gAbs (fCons (fVar 0) fNil)) (fCons (fCB gAbs (fCons (fVar 1) fNil)) fNil))) [some (.sh (.int a)), some (.sh (.int b)), none, none] = ρ ↔ some (.ok .next, [some (.sh (.int a)), some (.sh (.int b)), some (.sh (iN a.natAbs)), some (.sh (iN b.natAbs))]) = ρ := fun ρ => by
    have : (fPar [(2, false), (3, false)] (fCons (fCB gAbs (fCons (fVar 0) fNil)) (fCons (fCB gAbs (fCons (fVar 1) fNil)) fNil))) [some (.sh (.int a)), some (.sh (.int b)), none, none] = some (.ok .next, [some (.sh (.int a)), some (.sh (.int b)), some (.sh (iN a.natAbs)), some (.sh (iN b.natAbs))]) := by
      simp only [bT_ok, bT_err, bT_none, bind_ap, pure_ap, of_ap, ofT_some, ofT_none, at0_zero, at0_succ, var_ap, vT_sh, vT_ow, vT_io, cont_ap, cT_ow, cT_io, deref_val, deref_fresh, deref_slot, stab_val, stab_fresh, set0_zero, set0_succ, setC_ap, scT_ow, scT_io, fC_ap, binT_some, binK2_ap, binK1_ap, bin_ap, testT_bl, testK_ap, test_ap, truT_some, truK_ap, truth_ap, andK_t, andK_f, and_ap, orK_f, orK_t, or_ap, notK_ap, not_ap, ifK_t, ifK_f, if_ap, ifS_ap, andVT_t, andVT_f, andVK_ap, andV_ap, orVT_f, orVT_t, orVK_ap, orV_ap, notVT_bl, notVK_ap, notV_ap, chK3_ap, chT0_some, chT_t, chT_f, chK2_ap, chK1_ap, chain_ap, nil_ap, consK2_ap, consK1_ap, cons_ap, cons2_some, stabs_nil, stabs_cons, derefs_nil, derefs_cons, tupK_ap, tup_ap, lstK_ap, lst_ap, tupT_0, tupT_1, tupT_2, tupT_3, lstT_0, lstT_1, lstT_2, lstT_3, cbT_some, cbK_ap, cb_ap, mtT2_some, mtK2_ap, mtK_ap, mt_ap, ty_lst, mutT3_some, mutT2_some, mutK2_ap, mutT0_slot, mut_ap, slT_some, slK3_ap, slK2_ap, slK1_ap, sl_ap, intT_int, partK_ap, part_ap, rg1T_int, rg1K_ap, rg1_ap, rg2T_int, rg2K2_ap, rg2K1_ap, rg2_ap, lrK_ap, listRg_ap, next_ap, seq_ap, sqT_next, sqT_ret, sqT_brk, sqT_cont, sqT_err, dropK_ap, drop_ap, retT_some, retK_ap, ret_ap, retD_val, retD_fresh, owT_ow, retD_slot, io0_n, io0_sh, io0_ow, io0_succ, noIo_ap, asg_nil, asg_cons, asT2_some, asg_valF, asg_freF, asg_freL, asg_freK, asg_freT, parT_some, parK_ap, par_ap, valT_some, valK_ap, val_ap, stT2_some, stT_some, stT0_slot, stK3_ap, stK2_ap, stK1_ap, store_ap, auT3_some, auK3_ap, auT2_some, auT1_some, auT0_slot, auK2_ap, auK1_ap, augS_ap, augT2_int, augK_ap, augT_int, aug_ap, itLT_lst, itLK_ap, itL_ap, itTT_tup, itTK_ap, itT_ap, itR1T_int, itR1K_ap, itR1_ap, itR2T_int, itR2K_ap, itR2_ap, for_ap, lcT_some, lcK_ap, lc_ap, clK_ap, call_ap, clT0_some, clT_ok, clT_err, raise_ap, try_ap, tryT_err, tryT_ok, noErr_ap, neT_ok, share_ap, shT_ow, mkG_ap, enT_ret, enT_next, enT_err, outs_nil, outs_cons, ouT_io, gEq_int, gNe_int, gAdd_int, gSub_int, gLt_int, gLe_int, gGt_int, gGe_int, gInt_int, gIx_lst, gIx_tup, gLen_lst, gLen_tup, gLen_dK, gTupleOf_lst, gTupleOf_tup, gListOf_lst, gListOf_tup, set_ap, tg_ap, wipe_nil, wipe_cons, pb_nil, pb_cons, noOwn_ap, noT_none, noT_sh, putC_nil, putC_cons, ioL_nil, ioL_cons, ioLT_slot, ioLT_fresh, argOk_nil, argOk_val, argOk_fresh, argOk_slot, clT0_some, List.all_cons, List.all_nil, Bool.and_true, Bool.true_and, Bool.and_self, Bool.not_false, Bool.not_true, eq_self, if_true, if_false, and_true, true_and, and_self, List.length_cons, List.length_nil, List.mem_cons, List.not_mem_nil, or_false, false_or, true_or, decide_true, decide_false, forall_eq, List.getElem?_cons_zero, List.getElem?_cons_succ, Option.map_some, ty_lst, Nat.zero_add, not_false_eq_true, implies_true, false_implies, Nat.lt_add_one, Nat.zero_lt_succ, Nat.reduceLT, Nat.reduceAdd, Nat.reduceEqDiff, mutT_LN, mtT_LN, mutT_lst, mtT_lst, gab]
    rw [this]
  have h0 := (hEq _).mpr rfl
  show mkG 4 [] d_part _ = _
  rw [mkG_ap, hs, hd, seq_ap, h0]
  simp only [bT_ok, bT_err, bT_none, bind_ap, pure_ap, of_ap, ofT_some, ofT_none, at0_zero, at0_succ, var_ap, vT_sh, vT_ow, vT_io, cont_ap, cT_ow, cT_io, deref_val, deref_fresh, deref_slot, stab_val, stab_fresh, set0_zero, set0_succ, setC_ap, scT_ow, scT_io, fC_ap, binT_some, binK2_ap, binK1_ap, bin_ap, testT_bl, testK_ap, test_ap, truT_some, truK_ap, truth_ap, andK_t, andK_f, and_ap, orK_f, orK_t, or_ap, notK_ap, not_ap, ifK_t, ifK_f, if_ap, ifS_ap, andVT_t, andVT_f, andVK_ap, andV_ap, orVT_f, orVT_t, orVK_ap, orV_ap, notVT_bl, notVK_ap, notV_ap, chK3_ap, chT0_some, chT_t, chT_f, chK2_ap, chK1_ap, chain_ap, nil_ap, consK2_ap, consK1_ap, cons_ap, cons2_some, stabs_nil, stabs_cons, derefs_nil, derefs_cons, tupK_ap, tup_ap, lstK_ap, lst_ap, tupT_0, tupT_1, tupT_2, tupT_3, lstT_0, lstT_1, lstT_2, lstT_3, cbT_some, cbK_ap, cb_ap, mtT2_some, mtK2_ap, mtK_ap, mt_ap, ty_lst, mutT3_some, mutT2_some, mutK2_ap, mutT0_slot, mut_ap, slT_some, slK3_ap, slK2_ap, slK1_ap, sl_ap, intT_int, partK_ap, part_ap, rg1T_int, rg1K_ap, rg1_ap, rg2T_int, rg2K2_ap, rg2K1_ap, rg2_ap, lrK_ap, listRg_ap, next_ap, seq_ap, sqT_next, sqT_ret, sqT_brk, sqT_cont, sqT_err, dropK_ap, drop_ap, retT_some, retK_ap, ret_ap, retD_val, retD_fresh, owT_ow, retD_slot, io0_n, io0_sh, io0_ow, io0_succ, noIo_ap, asg_nil, asg_cons, asT2_some, asg_valF, asg_freF, asg_freL, asg_freK, asg_freT, parT_some, parK_ap, par_ap, valT_some, valK_ap, val_ap, stT2_some, stT_some, stT0_slot, stK3_ap, stK2_ap, stK1_ap, store_ap, auT3_some, auK3_ap, auT2_some, auT1_some, auT0_slot, auK2_ap, auK1_ap, augS_ap, augT2_int, augK_ap, augT_int, aug_ap, itLT_lst, itLK_ap, itL_ap, itTT_tup, itTK_ap, itT_ap, itR1T_int, itR1K_ap, itR1_ap, itR2T_int, itR2K_ap, itR2_ap, for_ap, lcT_some, lcK_ap, lc_ap, clK_ap, call_ap, clT0_some, clT_ok, clT_err, raise_ap, try_ap, tryT_err, tryT_ok, noErr_ap, neT_ok, share_ap, shT_ow, mkG_ap, enT_ret, enT_next, enT_err, outs_nil, outs_cons, ouT_io, gEq_int, gNe_int, gAdd_int, gSub_int, gLt_int, gLe_int, gGt_int, gGe_int, gInt_int, gAbs_int, gIx_lst, gIx_tup, gLen_lst, gLen_tup, gLen_dK, gTupleOf_lst, gTupleOf_tup, gListOf_lst, gListOf_tup, set_ap, tg_ap, wipe_nil, wipe_cons, pb_nil, pb_cons, noOwn_ap, noT_none, noT_sh, putC_nil, putC_cons, ioL_nil, ioL_cons, ioLT_slot, ioLT_fresh, argOk_nil, argOk_val, argOk_fresh, argOk_slot, clT0_some, List.all_cons, List.all_nil, Bool.and_true, Bool.true_and, Bool.and_self, Bool.not_false, Bool.not_true, eq_self, if_true, if_false, and_true, true_and, and_self, List.length_cons, List.length_nil, List.mem_cons, List.not_mem_nil, or_false, false_or, true_or, decide_true, decide_false, forall_eq, List.getElem?_cons_zero, List.getElem?_cons_succ, Option.map_some, ty_lst, Nat.zero_add, not_false_eq_true, implies_true, false_implies, Nat.lt_add_one, Nat.zero_lt_succ, Nat.reduceLT, Nat.reduceAdd, Nat.reduceEqDiff, mutT_LN, mtT_LN, mutT_lst, mtT_lst, h1, g0, gd]
  rfl
end
end K15

namespace K15
open PySem L2 L3
section
variable [Tb]
theorem gIx_FV {fs : List Fd} {i : Nat} {f : Fd} (h : fs[i]? = some f) : gIx (FV fs) (iN i) = some (.val (FD f)) := by
  unfold FV
  show (atI (fs.map FD) (i : Int)).map R.val = _
  rw [atI_nat' (d := FD f) (by rw [List.getElem?_map, h]; rfl)]
  rfl
theorem gIx_f0 (f : Fd) : gIx (FD f) (.int 0) = some (.val (.int f.1)) := (rfl)
theorem gIx_f1 (f : Fd) : gIx (FD f) (.int 1) = some (.val (.int f.2.1)) := (rfl)
theorem gIx_f2 (f : Fd) : gIx (FD f) (.int 2) = some (.val (.int f.2.2)) := (rfl)
theorem Okf.at {t : Int} : ∀ {fs : List Fd} {t : Int} {i : Nat} {f : Fd}, Okf t fs → fs[i]? = some f → t ≤ f.1 ∧ f.1 ≤ 1000 ∧ 0 ≤ f.2.1 ∧ f.2.1 ≤ 4 ∧ 0 ≤ f.2.2 ∧ f.2.2 ≤ 100
  | [], _, _, _, _, h => by simp at h
  | g :: fs, t, 0, f, ok, h => by
    have e : g = f := by simpa using h
    subst e
    exact ⟨ok.1, ok.2.1, ok.2.2.1, ok.2.2.2.1, ok.2.2.2.2.1, ok.2.2.2.2.2.1⟩
  | g :: fs, t, i + 1, f, ok, h => by
    have := Okf.at (t := t) ok.2.2.2.2.2.2 (show fs[i]? = some f by simpa using h)
    obtain ⟨h1, h2⟩ := this
    exact ⟨by have := ok.1; have := ok.2.2.1; omega, h2⟩
theorem Okf.next {t : Int} : ∀ {fs : List Fd} {t : Int} {i : Nat} {f g : Fd}, Okf t fs → fs[i]? = some f → fs[i + 1]? = some g → f.1 + f.2.1 ≤ g.1
  | [], _, _, _, _, _, h, _ => by simp at h
  | a :: fs, t, 0, f, g, ok, h, h' => by
    have e : a = f := by simpa using h
    subst e
    cases fs with
    | nil => simp at h'
    | cons b fs =>
      have e : b = g := by simpa using h'
      subst e
      exact ok.2.2.2.2.2.2.1
  | a :: fs, t, i + 1, f, g, ok, h, h' => Okf.next (t := t) ok.2.2.2.2.2.2 (show fs[i]? = some f by simpa using h) (show fs[i + 1]? = some g by simpa using h')
def kBody : M Fl := (fSeq (fIfS (fOr (fTest (fBin gLt (fVar 2) (fC (.int 0)))) (fOr (fTest (fBin gLt (fVar 3) (fC (.int 0)))) (fNot (fTest (fChain gLe gLe (fC (.int 0)) (fVar 4) (fC (.int 100))))))) (fRaise "BadTable") fNext)
    (fIfS (fAnd (fTest (fBin gGt (fVar 1) (fC (.int 0)))) (fTest (fBin gGt (fBin gAdd (fBin gIx (fBin gIx (fVar 0) (fBin gSub (fVar 1) (fC (.int 1)))) (fC (.int 0))) (fBin gIx (fBin gIx (fVar 0) (fBin gSub (fVar 1) (fC (.int 1)))) (fC (.int 1)))) (fVar 2)))) (fRaise "BadTable") fNext))
def kTg : D → DEnv → Option DEnv := (fTgT 2 (fTgC (fTg 1) (fTgC (fTgT 3 (fTgC (fTg 2) (fTgC (fTg 3) (fTgC (fTg 4) fTgN)))) fTgN)))
theorem kTg_run (v : D) (k : Nat) (f : Fd) {s1 s2 s3 s4 : Option SV} (h1 : okS s1) (h2 : okS s2) (h3 : okS s3) (h4 : okS s4) : kTg (.tup [.int (k : Nat), FD f]) [some (.sh v), s1, s2, s3, s4] = some [some (.sh v), some (.sh (iN k)), some (.sh (.int f.1)), some (.sh (.int f.2.1)), some (.sh (.int f.2.2))] := by
  rcases h1 with rfl | ⟨d1, rfl⟩ <;> rcases h2 with rfl | ⟨d2, rfl⟩ <;> rcases h3 with rfl | ⟨d3, rfl⟩ <;> rcases h4 with rfl | ⟨d4, rfl⟩ <;> rfl
theorem gGt_0 (k : Nat) : gGt (iN k) (.int 0) = some (.val (.bl (decide (0 < k)))) := by
  unfold iN
  rw [gGt_int]
  by_cases h : 0 < k
  · have : (k : Int) > 0 := by omega
    simp [h, this]
  · have : ¬ (k : Int) > 0 := by omega
    simp [h, this]
theorem gSub_1 (k : Nat) : gSub (iN (k + 1)) (.int 1) = some (.val (iN k)) := by
  unfold iN
  rw [gSub_int, show ((k + 1 : Nat) : Int) - 1 = (k : Int) from by omega]
theorem kBody_ok {fs : List Fd} {t : Int} (ok : Okf t fs) (ht : 0 ≤ t) {k : Nat} {f : Fd} (hf : fs[k]? = some f) : kBody [some (.sh (FV fs)), some (.sh (iN k)), some (.sh (.int f.1)), some (.sh (.int f.2.1)), some (.sh (.int f.2.2))] = some (.ok .next, [some (.sh (FV fs)), some (.sh (iN k)), some (.sh (.int f.1)), some (.sh (.int f.2.1)), some (.sh (.int f.2.2))]) := by
  obtain ⟨a1, a2, a3, a4, a5, a6⟩ := Okf.at (t := t) ok hf
  have n1 : ¬ f.1 < 0 := by omega
  have n2 : ¬ f.2.1 < 0 := by omega
  cases k with
  | zero =>
    simp only [bT_ok, bT_err, bT_none, bind_ap, pure_ap, of_ap, ofT_some, ofT_none, at0_zero, at0_succ, var_ap, vT_sh, vT_ow, vT_io, cont_ap, cT_ow, cT_io, deref_val, deref_fresh, deref_slot, stab_val, stab_fresh, set0_zero, set0_succ, setC_ap, scT_ow, scT_io, fC_ap, binT_some, binK2_ap, binK1_ap, bin_ap, testT_bl, testK_ap, test_ap, truT_some, truK_ap, truth_ap, andK_t, andK_f, and_ap, orK_f, orK_t, or_ap, notK_ap, not_ap, ifK_t, ifK_f, if_ap, ifS_ap, andVT_t, andVT_f, andVK_ap, andV_ap, orVT_f, orVT_t, orVK_ap, orV_ap, notVT_bl, notVK_ap, notV_ap, chK3_ap, chT0_some, chT_t, chT_f, chK2_ap, chK1_ap, chain_ap, nil_ap, consK2_ap, consK1_ap, cons_ap, cons2_some, stabs_nil, stabs_cons, derefs_nil, derefs_cons, tupK_ap, tup_ap, lstK_ap, lst_ap, tupT_0, tupT_1, tupT_2, tupT_3, lstT_0, lstT_1, lstT_2, lstT_3, cbT_some, cbK_ap, cb_ap, mtT2_some, mtK2_ap, mtK_ap, mt_ap, ty_lst, mutT3_some, mutT2_some, mutK2_ap, mutT0_slot, mut_ap, slT_some, slK3_ap, slK2_ap, slK1_ap, sl_ap, intT_int, partK_ap, part_ap, rg1T_int, rg1K_ap, rg1_ap, rg2T_int, rg2K2_ap, rg2K1_ap, rg2_ap, lrK_ap, listRg_ap, next_ap, seq_ap, sqT_next, sqT_ret, sqT_brk, sqT_cont, sqT_err, dropK_ap, drop_ap, retT_some, retK_ap, ret_ap, retD_val, retD_fresh, owT_ow, retD_slot, io0_n, io0_sh, io0_ow, io0_succ, noIo_ap, asg_nil, asg_cons, asT2_some, asg_valF, asg_freF, asg_freL, asg_freK, asg_freT, parT_some, parK_ap, par_ap, valT_some, valK_ap, val_ap, stT2_some, stT_some, stT0_slot, stK3_ap, stK2_ap, stK1_ap, store_ap, auT3_some, auK3_ap, auT2_some, auT1_some, auT0_slot, auK2_ap, auK1_ap, augS_ap, augT2_int, augK_ap, augT_int, aug_ap, itLT_lst, itLK_ap, itL_ap, itTT_tup, itTK_ap, itT_ap, itR1T_int, itR1K_ap, itR1_ap, itR2T_int, itR2K_ap, itR2_ap, for_ap, lcT_some, lcK_ap, lc_ap, clK_ap, call_ap, clT0_some, clT_ok, clT_err, raise_ap, try_ap, tryT_err, tryT_ok, noErr_ap, neT_ok, share_ap, shT_ow, mkG_ap, enT_ret, enT_next, enT_err, outs_nil, outs_cons, ouT_io, gEq_int, gNe_int, gAdd_int, gSub_int, gLt_int, gLe_int, gGt_int, gGe_int, gInt_int, gAbs_int, gIx_lst, gIx_tup, gLen_lst, gLen_tup, gLen_dK, gTupleOf_lst, gTupleOf_tup, gListOf_lst, gListOf_tup, set_ap, tg_ap, wipe_nil, wipe_cons, pb_nil, pb_cons, noOwn_ap, noT_none, noT_sh, putC_nil, putC_cons, ioL_nil, ioL_cons, ioLT_slot, ioLT_fresh, argOk_nil, argOk_val, argOk_fresh, argOk_slot, clT0_some, List.all_cons, List.all_nil, Bool.and_true, Bool.true_and, Bool.and_self, Bool.not_false, Bool.not_true, eq_self, if_true, if_false, and_true, true_and, and_self, List.length_cons, List.length_nil, List.mem_cons, List.not_mem_nil, or_false, false_or, true_or, decide_true, decide_false, forall_eq, List.getElem?_cons_zero, List.getElem?_cons_succ, Option.map_some, ty_lst, Nat.zero_add, not_false_eq_true, implies_true, false_implies, Nat.lt_add_one, Nat.zero_lt_succ, Nat.reduceLT, Nat.reduceAdd, Nat.reduceEqDiff, mutT_LN, mtT_LN, mutT_lst, mtT_lst, kBody, n1, n2, a5, a6, gGt_0, Nat.lt_irrefl]
  | succ j =>
    have hj : j < fs.length := by
      have := (List.getElem?_eq_some_iff.mp hf).1
      omega
    have hg : fs[j]? = some fs[j] := List.getElem?_eq_getElem hj
    have n3 : ¬ fs[j].1 + fs[j].2.1 > f.1 := by
      have := Okf.next (t := t) ok hg hf
      omega
    simp only [bT_ok, bT_err, bT_none, bind_ap, pure_ap, of_ap, ofT_some, ofT_none, at0_zero, at0_succ, var_ap, vT_sh, vT_ow, vT_io, cont_ap, cT_ow, cT_io, deref_val, deref_fresh, deref_slot, stab_val, stab_fresh, set0_zero, set0_succ, setC_ap, scT_ow, scT_io, fC_ap, binT_some, binK2_ap, binK1_ap, bin_ap, testT_bl, testK_ap, test_ap, truT_some, truK_ap, truth_ap, andK_t, andK_f, and_ap, orK_f, orK_t, or_ap, notK_ap, not_ap, ifK_t, ifK_f, if_ap, ifS_ap, andVT_t, andVT_f, andVK_ap, andV_ap, orVT_f, orVT_t, orVK_ap, orV_ap, notVT_bl, notVK_ap, notV_ap, chK3_ap, chT0_some, chT_t, chT_f, chK2_ap, chK1_ap, chain_ap, nil_ap, consK2_ap, consK1_ap, cons_ap, cons2_some, stabs_nil, stabs_cons, derefs_nil, derefs_cons, tupK_ap, tup_ap, lstK_ap, lst_ap, tupT_0, tupT_1, tupT_2, tupT_3, lstT_0, lstT_1, lstT_2, lstT_3, cbT_some, cbK_ap, cb_ap, mtT2_some, mtK2_ap, mtK_ap, mt_ap, ty_lst, mutT3_some, mutT2_some, mutK2_ap, mutT0_slot, mut_ap, slT_some, slK3_ap, slK2_ap, slK1_ap, sl_ap, intT_int, partK_ap, part_ap, rg1T_int, rg1K_ap, rg1_ap, rg2T_int, rg2K2_ap, rg2K1_ap, rg2_ap, lrK_ap, listRg_ap, next_ap, seq_ap, sqT_next, sqT_ret, sqT_brk, sqT_cont, sqT_err, dropK_ap, drop_ap, retT_some, retK_ap, ret_ap, retD_val, retD_fresh, owT_ow, retD_slot, io0_n, io0_sh, io0_ow, io0_succ, noIo_ap, asg_nil, asg_cons, asT2_some, asg_valF, asg_freF, asg_freL, asg_freK, asg_freT, parT_some, parK_ap, par_ap, valT_some, valK_ap, val_ap, stT2_some, stT_some, stT0_slot, stK3_ap, stK2_ap, stK1_ap, store_ap, auT3_some, auK3_ap, auT2_some, auT1_some, auT0_slot, auK2_ap, auK1_ap, augS_ap, augT2_int, augK_ap, augT_int, aug_ap, itLT_lst, itLK_ap, itL_ap, itTT_tup, itTK_ap, itT_ap, itR1T_int, itR1K_ap, itR1_ap, itR2T_int, itR2K_ap, itR2_ap, for_ap, lcT_some, lcK_ap, lc_ap, clK_ap, call_ap, clT0_some, clT_ok, clT_err, raise_ap, try_ap, tryT_err, tryT_ok, noErr_ap, neT_ok, share_ap, shT_ow, mkG_ap, enT_ret, enT_next, enT_err, outs_nil, outs_cons, ouT_io, gEq_int, gNe_int, gAdd_int, gSub_int, gLt_int, gLe_int, gGt_int, gGe_int, gInt_int, gAbs_int, gIx_lst, gIx_tup, gLen_lst, gLen_tup, gLen_dK, gTupleOf_lst, gTupleOf_tup, gListOf_lst, gListOf_tup, set_ap, tg_ap, wipe_nil, wipe_cons, pb_nil, pb_cons, noOwn_ap, noT_none, noT_sh, putC_nil, putC_cons, ioL_nil, ioL_cons, ioLT_slot, ioLT_fresh, argOk_nil, argOk_val, argOk_fresh, argOk_slot, clT0_some, List.all_cons, List.all_nil, Bool.and_true, Bool.true_and, Bool.and_self, Bool.not_false, Bool.not_true, eq_self, if_true, if_false, and_true, true_and, and_self, List.length_cons, List.length_nil, List.mem_cons, List.not_mem_nil, or_false, false_or, true_or, decide_true, decide_false, forall_eq, List.getElem?_cons_zero, List.getElem?_cons_succ, Option.map_some, ty_lst, Nat.zero_add, not_false_eq_true, implies_true, false_implies, Nat.lt_add_one, Nat.zero_lt_succ, Nat.reduceLT, Nat.reduceAdd, Nat.reduceEqDiff, mutT_LN, mtT_LN, mutT_lst, mtT_lst, kBody, n1, n2, a5, a6, gGt_0, Nat.zero_lt_succ, gSub_1, gIx_FV hg, gIx_f0, gIx_f1, n3]
theorem check_run {fs : List Fd} {t : Int} (ok : Okf t fs) (ht : 0 ≤ t) : g_check_fades [FV fs] = some (.ok .non, []) := by
  have hs : startD 5 [] [FV fs] = [some (.sh (FV fs)), none, none, none, none] := rfl
  obtain ⟨ρ', h1, s1, s2, s3, s4, rfl, _⟩ := fLoop_inv (tg := kTg) (body := kBody) (fun k ρ => ∃ s1 s2 s3 s4, ρ = [some (.sh (FV fs)), s1, s2, s3, s4] ∧ okS s1 ∧ okS s2 ∧ okS s3 ∧ okS s4) (ds := enumD (fs.map FD)) (ρ := [some (.sh (FV fs)), none, none, none, none])
    ⟨none, none, none, none, rfl, .inl rfl, .inl rfl, .inl rfl, .inl rfl⟩ (by
      rintro k ρ d hd ⟨s1, s2, s3, s4, rfl, h1, h2, h3, h4⟩
      rw [enumD_get, List.getElem?_map] at hd
      cases hf : fs[k]? with
      | none => rw [hf] at hd; cases hd
      | some f =>
        rw [hf] at hd
        cases hd
        exact ⟨_, _, kTg_run _ k f h1 h2 h3 h4, kBody_ok ok ht hf, _, _, _, _, rfl, .inr ⟨_, rfl⟩, .inr ⟨_, rfl⟩, .inr ⟨_, rfl⟩, .inr ⟨_, rfl⟩⟩)
  have hi : fItE (fVar 0) [some (.sh (FV fs)), none, none, none, none] = some (.ok (enumD (fs.map FD)), [some (.sh (FV fs)), none, none, none, none]) := rfl
  have hd : d_check_fades = fFor (fItE (fVar 0)) kTg kBody := rfl
  show mkG 5 [] d_check_fades _ = _
  rw [mkG_ap, hs, hd, for_ap, hi, bT_ok, h1]
  rfl
end
end K15

namespace K15
open PySem L2 L3
section
variable [Tb]
theorem gMin_I (a b : Int) : gMin [.int a, .int b] = some (.val (.int (min a b))) := by
  unfold gMin
  simp only
  refine congrArg (fun z => some (R.val (D.int z))) ?_
  split <;> omega
theorem gMax_I (a b : Int) : gMax [.int a, .int b] = some (.val (.int (max a b))) := by
  unfold gMax
  simp only
  refine congrArg (fun z => some (R.val (D.int z))) ?_
  split <;> omega
theorem gMul_b (i : Int) {j : Int} (h : -100000000 < j ∧ j < 100000000) : gMul (.int i) (.int j) = some (.val (.int (i * j))) := gMul_int ⟨by omega, by omega⟩
theorem gDiv_b (i : Int) {j : Int} (h : 0 < j ∧ j < 100000000) : gDiv (.int i) (.int j) = some (.val (.int (i / j))) := by
  rw [gDiv_int (by omega) (by omega), Int.fdiv_eq_ediv_of_nonneg _ (by omega)]
def t3 (a b c : Nat) : D → DEnv → Option DEnv := (fTgT 3 (fTgC (fTg a) (fTgC (fTg b) (fTgC (fTg c) fTgN))))
def vBody : M Fl := (fIfS (fTest (fBin gLe (fVar 3) (fVar 1))) (fSeq (fPar [(6, false)] (fCons (fCB gMin (fCons (fBin gSub (fVar 1) (fVar 3)) (fCons (fVar 4) fNil))) fNil))
    (fPar [(2, false)] (fCons (fIf (fOr (fTest (fBin gEq (fVar 4) (fC (.int 0)))) (fTest (fBin gEq (fVar 6) (fVar 4)))) (fBin gMul (fC (.int 60)) (fVar 5)) (fBin gAdd (fVar 2) (fBin gDiv (fBin gMul (fBin gSub (fBin gMul (fC (.int 60)) (fVar 5)) (fVar 2)) (fVar 6)) (fVar 4)))) fNil))) fNext)
def vEnv (fs : List Fd) (t h : Int) (s3 s4 s5 s6 : Option SV) : DEnv := [some (.sh (FV fs)), some (.sh (.int t)), some (.sh (.int h)), s3, s4, s5, s6]
theorem vTg (fs : List Fd) (t h : Int) (f : Fd) {s3 s4 s5 s6 : Option SV} (h3 : okS s3) (h4 : okS s4) (h5 : okS s5) : t3 3 4 5 (FD f) (vEnv fs t h s3 s4 s5 s6) = some (vEnv fs t h (some (.sh (.int f.1))) (some (.sh (.int f.2.1))) (some (.sh (.int f.2.2))) s6) := by
  rcases h3 with rfl | ⟨d3, rfl⟩ <;> rcases h4 with rfl | ⟨d4, rfl⟩ <;> rcases h5 with rfl | ⟨d5, rfl⟩ <;> rfl
def Smf (f : Fd) : Prop := 0 ≤ f.2.1 ∧ f.2.1 ≤ 4 ∧ 0 ≤ f.2.2 ∧ f.2.2 ≤ 100
theorem vBody_run (fs : List Fd) (t h : Int) {f : Fd} (hf : Smf f) {s6 : Option SV} (h6 : okS s6) : ∃ s6', okS s6' ∧ vBody (vEnv fs t h (some (.sh (.int f.1))) (some (.sh (.int f.2.1))) (some (.sh (.int f.2.2))) s6) = some (.ok .next, vEnv fs t (stepL t h f) (some (.sh (.int f.1))) (some (.sh (.int f.2.1))) (some (.sh (.int f.2.2))) s6') := by
  obtain ⟨a1, a2, a3, a4⟩ := hf
  have e0 : ∀ x : Int, gEq (.int x) (.int 0) = some (.val (.bl (decide (x = 0)))) := fun x => gEq_int x 0
  have e1 : ∀ x y : Int, gEq (.int x) (.int y) = some (.val (.bl (decide (x = y)))) := fun x y => gEq_int x y
  unfold stepL
  by_cases c : f.1 ≤ t
  · rw [if_pos c]
    refine ⟨some (.sh (.int (min (t - f.1) f.2.1))), .inr ⟨_, rfl⟩, ?_⟩
    by_cases c1 : f.2.1 = 0
    · rw [if_pos (.inl c1)]
      simp only [bT_ok, bT_err, bT_none, bind_ap, pure_ap, of_ap, ofT_some, ofT_none, at0_zero, at0_succ, var_ap, vT_sh, vT_ow, vT_io, cont_ap, cT_ow, cT_io, deref_val, deref_fresh, deref_slot, stab_val, stab_fresh, set0_zero, set0_succ, setC_ap, scT_ow, scT_io, fC_ap, binT_some, binK2_ap, binK1_ap, bin_ap, testT_bl, testK_ap, test_ap, truT_some, truK_ap, truth_ap, andK_t, andK_f, and_ap, orK_f, orK_t, or_ap, notK_ap, not_ap, ifK_t, ifK_f, if_ap, ifS_ap, andVT_t, andVT_f, andVK_ap, andV_ap, orVT_f, orVT_t, orVK_ap, orV_ap, notVT_bl, notVK_ap, notV_ap, chK3_ap, chT0_some, chT_t, chT_f, chK2_ap, chK1_ap, chain_ap, nil_ap, consK2_ap, consK1_ap, cons_ap, cons2_some, stabs_nil, stabs_cons, derefs_nil, derefs_cons, tupK_ap, tup_ap, lstK_ap, lst_ap, tupT_0, tupT_1, tupT_2, tupT_3, lstT_0, lstT_1, lstT_2, lstT_3, cbT_some, cbK_ap, cb_ap, mtT2_some, mtK2_ap, mtK_ap, mt_ap, ty_lst, mutT3_some, mutT2_some, mutK2_ap, mutT0_slot, mut_ap, slT_some, slK3_ap, slK2_ap, slK1_ap, sl_ap, intT_int, partK_ap, part_ap, rg1T_int, rg1K_ap, rg1_ap, rg2T_int, rg2K2_ap, rg2K1_ap, rg2_ap, lrK_ap, listRg_ap, next_ap, seq_ap, sqT_next, sqT_ret, sqT_brk, sqT_cont, sqT_err, dropK_ap, drop_ap, retT_some, retK_ap, ret_ap, retD_val, retD_fresh, owT_ow, retD_slot, io0_n, io0_sh, io0_ow, io0_succ, noIo_ap, asg_nil, asg_cons, asT2_some, asg_valF, asg_freF, asg_freL, asg_freK, asg_freT, parT_some, parK_ap, par_ap, valT_some, valK_ap, val_ap, stT2_some, stT_some, stT0_slot, stK3_ap, stK2_ap, stK1_ap, store_ap, auT3_some, auK3_ap, auT2_some, auT1_some, auT0_slot, auK2_ap, auK1_ap, augS_ap, augT2_int, augK_ap, augT_int, aug_ap, itLT_lst, itLK_ap, itL_ap, itTT_tup, itTK_ap, itT_ap, itR1T_int, itR1K_ap, itR1_ap, itR2T_int, itR2K_ap, itR2_ap, for_ap, lcT_some, lcK_ap, lc_ap, clK_ap, call_ap, clT0_some, clT_ok, clT_err, raise_ap, try_ap, tryT_err, tryT_ok, noErr_ap, neT_ok, share_ap, shT_ow, mkG_ap, enT_ret, enT_next, enT_err, outs_nil, outs_cons, ouT_io, gEq_int, gNe_int, gAdd_int, gSub_int, gLt_int, gLe_int, gGt_int, gGe_int, gInt_int, gAbs_int, gIx_lst, gIx_tup, gLen_lst, gLen_tup, gLen_dK, gTupleOf_lst, gTupleOf_tup, gListOf_lst, gListOf_tup, set_ap, tg_ap, wipe_nil, wipe_cons, pb_nil, pb_cons, noOwn_ap, noT_none, noT_sh, putC_nil, putC_cons, ioL_nil, ioL_cons, ioLT_slot, ioLT_fresh, argOk_nil, argOk_val, argOk_fresh, argOk_slot, clT0_some, List.all_cons, List.all_nil, Bool.and_true, Bool.true_and, Bool.and_self, Bool.not_false, Bool.not_true, eq_self, if_true, if_false, and_true, true_and, and_self, List.length_cons, List.length_nil, List.mem_cons, List.not_mem_nil, or_false, false_or, true_or, decide_true, decide_false, forall_eq, List.getElem?_cons_zero, List.getElem?_cons_succ, Option.map_some, ty_lst, Nat.zero_add, not_false_eq_true, implies_true, false_implies, Nat.lt_add_one, Nat.zero_lt_succ, Nat.reduceLT, Nat.reduceAdd, Nat.reduceEqDiff, mutT_LN, mtT_LN, mutT_lst, mtT_lst, vBody, vEnv, c, h6.io, gMin_I, c1, gMul_b _ (show -100000000 < f.2.2 ∧ f.2.2 < 100000000 by omega)]
    · by_cases c2 : min (t - f.1) f.2.1 = f.2.1
      · rw [if_pos (.inr c2)]
        simp only [bT_ok, bT_err, bT_none, bind_ap, pure_ap, of_ap, ofT_some, ofT_none, at0_zero, at0_succ, var_ap, vT_sh, vT_ow, vT_io, cont_ap, cT_ow, cT_io, deref_val, deref_fresh, deref_slot, stab_val, stab_fresh, set0_zero, set0_succ, setC_ap, scT_ow, scT_io, fC_ap, binT_some, binK2_ap, binK1_ap, bin_ap, testT_bl, testK_ap, test_ap, truT_some, truK_ap, truth_ap, andK_t, andK_f, and_ap, orK_f, orK_t, or_ap, notK_ap, not_ap, ifK_t, ifK_f, if_ap, ifS_ap, andVT_t, andVT_f, andVK_ap, andV_ap, orVT_f, orVT_t, orVK_ap, orV_ap, notVT_bl, notVK_ap, notV_ap, chK3_ap, chT0_some, chT_t, chT_f, chK2_ap, chK1_ap, chain_ap, nil_ap, consK2_ap, consK1_ap, cons_ap, cons2_some, stabs_nil, stabs_cons, derefs_nil, derefs_cons, tupK_ap, tup_ap, lstK_ap, lst_ap, tupT_0, tupT_1, tupT_2, tupT_3, lstT_0, lstT_1, lstT_2, lstT_3, cbT_some, cbK_ap, cb_ap, mtT2_some, mtK2_ap, mtK_ap, mt_ap, ty_lst, mutT3_some, mutT2_some, mutK2_ap, mutT0_slot, mut_ap, slT_some, slK3_ap, slK2_ap, slK1_ap, sl_ap, intT_int, partK_ap, part_ap, rg1T_int, rg1K_ap, rg1_ap, rg2T_int, rg2K2_ap, rg2K1_ap, rg2_ap, lrK_ap, listRg_ap, next_ap, seq_ap, sqT_next, sqT_ret, sqT_brk, sqT_cont, sqT_err, dropK_ap, drop_ap, retT_some, retK_ap, ret_ap, retD_val, retD_fresh, owT_ow, retD_slot, io0_n, io0_sh, io0_ow, io0_succ, noIo_ap, asg_nil, asg_cons, asT2_some, asg_valF, asg_freF, asg_freL, asg_freK, asg_freT, parT_some, parK_ap, par_ap, valT_some, valK_ap, val_ap, stT2_some, stT_some, stT0_slot, stK3_ap, stK2_ap, stK1_ap, store_ap, auT3_some, auK3_ap, auT2_some, auT1_some, auT0_slot, auK2_ap, auK1_ap, augS_ap, augT2_int, augK_ap, augT_int, aug_ap, itLT_lst, itLK_ap, itL_ap, itTT_tup, itTK_ap, itT_ap, itR1T_int, itR1K_ap, itR1_ap, itR2T_int, itR2K_ap, itR2_ap, for_ap, lcT_some, lcK_ap, lc_ap, clK_ap, call_ap, clT0_some, clT_ok, clT_err, raise_ap, try_ap, tryT_err, tryT_ok, noErr_ap, neT_ok, share_ap, shT_ow, mkG_ap, enT_ret, enT_next, enT_err, outs_nil, outs_cons, ouT_io, gEq_int, gNe_int, gAdd_int, gSub_int, gLt_int, gLe_int, gGt_int, gGe_int, gInt_int, gAbs_int, gIx_lst, gIx_tup, gLen_lst, gLen_tup, gLen_dK, gTupleOf_lst, gTupleOf_tup, gListOf_lst, gListOf_tup, set_ap, tg_ap, wipe_nil, wipe_cons, pb_nil, pb_cons, noOwn_ap, noT_none, noT_sh, putC_nil, putC_cons, ioL_nil, ioL_cons, ioLT_slot, ioLT_fresh, argOk_nil, argOk_val, argOk_fresh, argOk_slot, clT0_some, List.all_cons, List.all_nil, Bool.and_true, Bool.true_and, Bool.and_self, Bool.not_false, Bool.not_true, eq_self, if_true, if_false, and_true, true_and, and_self, List.length_cons, List.length_nil, List.mem_cons, List.not_mem_nil, or_false, false_or, true_or, decide_true, decide_false, forall_eq, List.getElem?_cons_zero, List.getElem?_cons_succ, Option.map_some, ty_lst, Nat.zero_add, not_false_eq_true, implies_true, false_implies, Nat.lt_add_one, Nat.zero_lt_succ, Nat.reduceLT, Nat.reduceAdd, Nat.reduceEqDiff, mutT_LN, mtT_LN, mutT_lst, mtT_lst, vBody, vEnv, c, h6.io, gMin_I, c1, c2, gMul_b _ (show -100000000 < f.2.2 ∧ f.2.2 < 100000000 by omega)]
      · rw [if_neg (by omega)]
        have hm : -100000000 < min (t - f.1) f.2.1 ∧ min (t - f.1) f.2.1 < 100000000 := by omega
        simp only [bT_ok, bT_err, bT_none, bind_ap, pure_ap, of_ap, ofT_some, ofT_none, at0_zero, at0_succ, var_ap, vT_sh, vT_ow, vT_io, cont_ap, cT_ow, cT_io, deref_val, deref_fresh, deref_slot, stab_val, stab_fresh, set0_zero, set0_succ, setC_ap, scT_ow, scT_io, fC_ap, binT_some, binK2_ap, binK1_ap, bin_ap, testT_bl, testK_ap, test_ap, truT_some, truK_ap, truth_ap, andK_t, andK_f, and_ap, orK_f, orK_t, or_ap, notK_ap, not_ap, ifK_t, ifK_f, if_ap, ifS_ap, andVT_t, andVT_f, andVK_ap, andV_ap, orVT_f, orVT_t, orVK_ap, orV_ap, notVT_bl, notVK_ap, notV_ap, chK3_ap, chT0_some, chT_t, chT_f, chK2_ap, chK1_ap, chain_ap, nil_ap, consK2_ap, consK1_ap, cons_ap, cons2_some, stabs_nil, stabs_cons, derefs_nil, derefs_cons, tupK_ap, tup_ap, lstK_ap, lst_ap, tupT_0, tupT_1, tupT_2, tupT_3, lstT_0, lstT_1, lstT_2, lstT_3, cbT_some, cbK_ap, cb_ap, mtT2_some, mtK2_ap, mtK_ap, mt_ap, ty_lst, mutT3_some, mutT2_some, mutK2_ap, mutT0_slot, mut_ap, slT_some, slK3_ap, slK2_ap, slK1_ap, sl_ap, intT_int, partK_ap, part_ap, rg1T_int, rg1K_ap, rg1_ap, rg2T_int, rg2K2_ap, rg2K1_ap, rg2_ap, lrK_ap, listRg_ap, next_ap, seq_ap, sqT_next, sqT_ret, sqT_brk, sqT_cont, sqT_err, dropK_ap, drop_ap, retT_some, retK_ap, ret_ap, retD_val, retD_fresh, owT_ow, retD_slot, io0_n, io0_sh, io0_ow, io0_succ, noIo_ap, asg_nil, asg_cons, asT2_some, asg_valF, asg_freF, asg_freL, asg_freK, asg_freT, parT_some, parK_ap, par_ap, valT_some, valK_ap, val_ap, stT2_some, stT_some, stT0_slot, stK3_ap, stK2_ap, stK1_ap, store_ap, auT3_some, auK3_ap, auT2_some, auT1_some, auT0_slot, auK2_ap, auK1_ap, augS_ap, augT2_int, augK_ap, augT_int, aug_ap, itLT_lst, itLK_ap, itL_ap, itTT_tup, itTK_ap, itT_ap, itR1T_int, itR1K_ap, itR1_ap, itR2T_int, itR2K_ap, itR2_ap, for_ap, lcT_some, lcK_ap, lc_ap, clK_ap, call_ap, clT0_some, clT_ok, clT_err, raise_ap, try_ap, tryT_err, tryT_ok, noErr_ap, neT_ok, share_ap, shT_ow, mkG_ap, enT_ret, enT_next, enT_err, outs_nil, outs_cons, ouT_io, gEq_int, gNe_int, gAdd_int, gSub_int, gLt_int, gLe_int, gGt_int, gGe_int, gInt_int, gAbs_int, gIx_lst, gIx_tup, gLen_lst, gLen_tup, gLen_dK, gTupleOf_lst, gTupleOf_tup, gListOf_lst, gListOf_tup, set_ap, tg_ap, wipe_nil, wipe_cons, pb_nil, pb_cons, noOwn_ap, noT_none, noT_sh, putC_nil, putC_cons, ioL_nil, ioL_cons, ioLT_slot, ioLT_fresh, argOk_nil, argOk_val, argOk_fresh, argOk_slot, clT0_some, List.all_cons, List.all_nil, Bool.and_true, Bool.true_and, Bool.and_self, Bool.not_false, Bool.not_true, eq_self, if_true, if_false, and_true, true_and, and_self, List.length_cons, List.length_nil, List.mem_cons, List.not_mem_nil, or_false, false_or, true_or, decide_true, decide_false, forall_eq, List.getElem?_cons_zero, List.getElem?_cons_succ, Option.map_some, ty_lst, Nat.zero_add, not_false_eq_true, implies_true, false_implies, Nat.lt_add_one, Nat.zero_lt_succ, Nat.reduceLT, Nat.reduceAdd, Nat.reduceEqDiff, mutT_LN, mtT_LN, mutT_lst, mtT_lst, vBody, vEnv, c, h6.io, gMin_I, c1, c2, gMul_b _ (show -100000000 < f.2.2 ∧ f.2.2 < 100000000 by omega), gMul_b _ hm, gDiv_b _ (show 0 < f.2.1 ∧ f.2.1 < 100000000 by omega)]
  · rw [if_neg c]
    exact ⟨s6, h6, by simp only [bT_ok, bT_err, bT_none, bind_ap, pure_ap, of_ap, ofT_some, ofT_none, at0_zero, at0_succ, var_ap, vT_sh, vT_ow, vT_io, cont_ap, cT_ow, cT_io, deref_val, deref_fresh, deref_slot, stab_val, stab_fresh, set0_zero, set0_succ, setC_ap, scT_ow, scT_io, fC_ap, binT_some, binK2_ap, binK1_ap, bin_ap, testT_bl, testK_ap, test_ap, truT_some, truK_ap, truth_ap, andK_t, andK_f, and_ap, orK_f, orK_t, or_ap, notK_ap, not_ap, ifK_t, ifK_f, if_ap, ifS_ap, andVT_t, andVT_f, andVK_ap, andV_ap, orVT_f, orVT_t, orVK_ap, orV_ap, notVT_bl, notVK_ap, notV_ap, chK3_ap, chT0_some, chT_t, chT_f, chK2_ap, chK1_ap, chain_ap, nil_ap, consK2_ap, consK1_ap, cons_ap, cons2_some, stabs_nil, stabs_cons, derefs_nil, derefs_cons, tupK_ap, tup_ap, lstK_ap, lst_ap, tupT_0, tupT_1, tupT_2, tupT_3, lstT_0, lstT_1, lstT_2, lstT_3, cbT_some, cbK_ap, cb_ap, mtT2_some, mtK2_ap, mtK_ap, mt_ap, ty_lst, mutT3_some, mutT2_some, mutK2_ap, mutT0_slot, mut_ap, slT_some, slK3_ap, slK2_ap, slK1_ap, sl_ap, intT_int, partK_ap, part_ap, rg1T_int, rg1K_ap, rg1_ap, rg2T_int, rg2K2_ap, rg2K1_ap, rg2_ap, lrK_ap, listRg_ap, next_ap, seq_ap, sqT_next, sqT_ret, sqT_brk, sqT_cont, sqT_err, dropK_ap, drop_ap, retT_some, retK_ap, ret_ap, retD_val, retD_fresh, owT_ow, retD_slot, io0_n, io0_sh, io0_ow, io0_succ, noIo_ap, asg_nil, asg_cons, asT2_some, asg_valF, asg_freF, asg_freL, asg_freK, asg_freT, parT_some, parK_ap, par_ap, valT_some, valK_ap, val_ap, stT2_some, stT_some, stT0_slot, stK3_ap, stK2_ap, stK1_ap, store_ap, auT3_some, auK3_ap, auT2_some, auT1_some, auT0_slot, auK2_ap, auK1_ap, augS_ap, augT2_int, augK_ap, augT_int, aug_ap, itLT_lst, itLK_ap, itL_ap, itTT_tup, itTK_ap, itT_ap, itR1T_int, itR1K_ap, itR1_ap, itR2T_int, itR2K_ap, itR2_ap, for_ap, lcT_some, lcK_ap, lc_ap, clK_ap, call_ap, clT0_some, clT_ok, clT_err, raise_ap, try_ap, tryT_err, tryT_ok, noErr_ap, neT_ok, share_ap, shT_ow, mkG_ap, enT_ret, enT_next, enT_err, outs_nil, outs_cons, ouT_io, gEq_int, gNe_int, gAdd_int, gSub_int, gLt_int, gLe_int, gGt_int, gGe_int, gInt_int, gAbs_int, gIx_lst, gIx_tup, gLen_lst, gLen_tup, gLen_dK, gTupleOf_lst, gTupleOf_tup, gListOf_lst, gListOf_tup, set_ap, tg_ap, wipe_nil, wipe_cons, pb_nil, pb_cons, noOwn_ap, noT_none, noT_sh, putC_nil, putC_cons, ioL_nil, ioL_cons, ioLT_slot, ioLT_fresh, argOk_nil, argOk_val, argOk_fresh, argOk_slot, clT0_some, List.all_cons, List.all_nil, Bool.and_true, Bool.true_and, Bool.and_self, Bool.not_false, Bool.not_true, eq_self, if_true, if_false, and_true, true_and, and_self, List.length_cons, List.length_nil, List.mem_cons, List.not_mem_nil, or_false, false_or, true_or, decide_true, decide_false, forall_eq, List.getElem?_cons_zero, List.getElem?_cons_succ, Option.map_some, ty_lst, Nat.zero_add, not_false_eq_true, implies_true, false_implies, Nat.lt_add_one, Nat.zero_lt_succ, Nat.reduceLT, Nat.reduceAdd, Nat.reduceEqDiff, mutT_LN, mtT_LN, mutT_lst, mtT_lst, vBody, vEnv, c]⟩
theorem v_loop (fs : List Fd) (t : Int) : ∀ (l : List Fd) (h : Int) (s3 s4 s5 s6 : Option SV), (∀ f ∈ l, Smf f) → okS s3 → okS s4 → okS s5 → okS s6 → ∃ s3' s4' s5' s6', fLoop (t3 3 4 5) vBody (l.map FD) (vEnv fs t h s3 s4 s5 s6) = some (.ok .next, vEnv fs t (lv t h l) s3' s4' s5' s6')
  | [], h, s3, s4, s5, s6, _, _, _, _, _ => ⟨s3, s4, s5, s6, rfl⟩
  | f :: l, h, s3, s4, s5, s6, hs, h3, h4, h5, h6 => by
    obtain ⟨s6', h6', e⟩ := vBody_run fs t h (hs f List.mem_cons_self) h6
    obtain ⟨a, b, c, d, e2⟩ := v_loop fs t l (stepL t h f) (some (.sh (.int f.1))) (some (.sh (.int f.2.1))) (some (.sh (.int f.2.2))) s6' (fun g hg => hs g (List.mem_cons_of_mem _ hg)) (.inr ⟨_, rfl⟩) (.inr ⟨_, rfl⟩) (.inr ⟨_, rfl⟩) h6'
    refine ⟨a, b, c, d, ?_⟩
    rw [List.map_cons, lv]
    unfold fLoop
    rw [vTg fs t h f h3 h4 h5]
    simp only [e]
    exact e2
theorem Okf.smf {t : Int} {fs : List Fd} (ok : Okf t fs) : ∀ f ∈ fs, Smf f := fun f hf => by
  obtain ⟨i, hi⟩ := List.mem_iff_getElem?.mp hf
  obtain ⟨_, _, a, b, c, d⟩ := Okf.at (t := t) ok hi
  exact ⟨a, b, c, d⟩
theorem law_level_run {fs : List Fd} (hs : ∀ f ∈ fs, Smf f) (t : Int) : g_law_level [FV fs, .int t] = some (.ok (.int (lv t 0 fs)), []) := by
  have hst : startD 7 [] [FV fs, .int t] = [some (.sh (FV fs)), some (.sh (.int t)), none, none, none, none, none] := rfl
  obtain ⟨a, b, c, d, e⟩ := v_loop fs t fs 0 none none none none hs (.inl rfl) (.inl rfl) (.inl rfl) (.inl rfl)
  have hd : d_law_level = (fSeq (fPar [(2, false)] (fCons (fC (.int 0)) fNil)) (fSeq (fFor (fItL (fVar 0)) (t3 3 4 5) vBody) (fRet (fVar 2)))) := rfl
  have hi : ∀ ρ, itLT ρ (some (FV fs)) = some (.ok (fs.map FD), ρ) := fun _ => rfl
  unfold vEnv at e
  show mkG 7 [] d_law_level _ = _
  rw [mkG_ap, hst, hd]
  simp only [bT_ok, bT_err, bT_none, bind_ap, pure_ap, of_ap, ofT_some, ofT_none, at0_zero, at0_succ, var_ap, vT_sh, vT_ow, vT_io, cont_ap, cT_ow, cT_io, deref_val, deref_fresh, deref_slot, stab_val, stab_fresh, set0_zero, set0_succ, setC_ap, scT_ow, scT_io, fC_ap, binT_some, binK2_ap, binK1_ap, bin_ap, testT_bl, testK_ap, test_ap, truT_some, truK_ap, truth_ap, andK_t, andK_f, and_ap, orK_f, orK_t, or_ap, notK_ap, not_ap, ifK_t, ifK_f, if_ap, ifS_ap, andVT_t, andVT_f, andVK_ap, andV_ap, orVT_f, orVT_t, orVK_ap, orV_ap, notVT_bl, notVK_ap, notV_ap, chK3_ap, chT0_some, chT_t, chT_f, chK2_ap, chK1_ap, chain_ap, nil_ap, consK2_ap, consK1_ap, cons_ap, cons2_some, stabs_nil, stabs_cons, derefs_nil, derefs_cons, tupK_ap, tup_ap, lstK_ap, lst_ap, tupT_0, tupT_1, tupT_2, tupT_3, lstT_0, lstT_1, lstT_2, lstT_3, cbT_some, cbK_ap, cb_ap, mtT2_some, mtK2_ap, mtK_ap, mt_ap, ty_lst, mutT3_some, mutT2_some, mutK2_ap, mutT0_slot, mut_ap, slT_some, slK3_ap, slK2_ap, slK1_ap, sl_ap, intT_int, partK_ap, part_ap, rg1T_int, rg1K_ap, rg1_ap, rg2T_int, rg2K2_ap, rg2K1_ap, rg2_ap, lrK_ap, listRg_ap, next_ap, seq_ap, sqT_next, sqT_ret, sqT_brk, sqT_cont, sqT_err, dropK_ap, drop_ap, retT_some, retK_ap, ret_ap, retD_val, retD_fresh, owT_ow, retD_slot, io0_n, io0_sh, io0_ow, io0_succ, noIo_ap, asg_nil, asg_cons, asT2_some, asg_valF, asg_freF, asg_freL, asg_freK, asg_freT, parT_some, parK_ap, par_ap, valT_some, valK_ap, val_ap, stT2_some, stT_some, stT0_slot, stK3_ap, stK2_ap, stK1_ap, store_ap, auT3_some, auK3_ap, auT2_some, auT1_some, auT0_slot, auK2_ap, auK1_ap, augS_ap, augT2_int, augK_ap, augT_int, aug_ap, itLT_lst, itLK_ap, itL_ap, itTT_tup, itTK_ap, itT_ap, itR1T_int, itR1K_ap, itR1_ap, itR2T_int, itR2K_ap, itR2_ap, for_ap, lcT_some, lcK_ap, lc_ap, clK_ap, call_ap, clT0_some, clT_ok, clT_err, raise_ap, try_ap, tryT_err, tryT_ok, noErr_ap, neT_ok, share_ap, shT_ow, mkG_ap, enT_ret, enT_next, enT_err, outs_nil, outs_cons, ouT_io, gEq_int, gNe_int, gAdd_int, gSub_int, gLt_int, gLe_int, gGt_int, gGe_int, gInt_int, gAbs_int, gIx_lst, gIx_tup, gLen_lst, gLen_tup, gLen_dK, gTupleOf_lst, gTupleOf_tup, gListOf_lst, gListOf_tup, set_ap, tg_ap, wipe_nil, wipe_cons, pb_nil, pb_cons, noOwn_ap, noT_none, noT_sh, putC_nil, putC_cons, ioL_nil, ioL_cons, ioLT_slot, ioLT_fresh, argOk_nil, argOk_val, argOk_fresh, argOk_slot, clT0_some, List.all_cons, List.all_nil, Bool.and_true, Bool.true_and, Bool.and_self, Bool.not_false, Bool.not_true, eq_self, if_true, if_false, and_true, true_and, and_self, List.length_cons, List.length_nil, List.mem_cons, List.not_mem_nil, or_false, false_or, true_or, decide_true, decide_false, forall_eq, List.getElem?_cons_zero, List.getElem?_cons_succ, Option.map_some, ty_lst, Nat.zero_add, not_false_eq_true, implies_true, false_implies, Nat.lt_add_one, Nat.zero_lt_succ, Nat.reduceLT, Nat.reduceAdd, Nat.reduceEqDiff, mutT_LN, mtT_LN, mutT_lst, mtT_lst, hi, e]
/-! level_at -/
def aBody : M Fl := (fSeq (fIfS (fTest (fBin gLt (fVar 1) (fVar 3))) (M.pure .brk) fNext)
    (fSeq (fIfS (fTest (fBin gLt (fVar 1) (fBin gAdd (fVar 3) (fVar 4)))) (fRet (fCall [] 2 g_part (fCons (fVal (fBin gAdd (fBin gMul (fVar 2) (fVar 4)) (fBin gMul (fBin gSub (fVar 5) (fVar 2)) (fBin gSub (fVar 1) (fVar 3))))) (fCons (fVal (fVar 4)) fNil)))) fNext)
    (fPar [(2, false)] (fCons (fVar 5) fNil))))
def aEnv (fs : List Fd) (t h : Int) (s3 s4 s5 : Option SV) : DEnv := [some (.sh (FV fs)), some (.sh (.int t)), some (.sh (.int h)), s3, s4, s5]
theorem aTg (fs : List Fd) (t h : Int) (f : Fd) {s3 s4 s5 : Option SV} (h3 : okS s3) (h4 : okS s4) (h5 : okS s5) : t3 3 4 5 (FD f) (aEnv fs t h s3 s4 s5) = some (aEnv fs t h (some (.sh (.int f.1))) (some (.sh (.int f.2.1))) (some (.sh (.int f.2.2)))) := by
  rcases h3 with rfl | ⟨d3, rfl⟩ <;> rcases h4 with rfl | ⟨d4, rfl⟩ <;> rcases h5 with rfl | ⟨d5, rfl⟩ <;> rfl
theorem a_loop (fs : List Fd) (t : Int) : ∀ (l : List Fd) (t0 h : Int) (s3 s4 s5 : Option SV), Okf t0 l → okS s3 → okS s4 → okS s5 → ∃ o h' s3' s4' s5', fLoop (t3 3 4 5) aBody (l.map FD) (aEnv fs t h s3 s4 s5) = some (.ok o, aEnv fs t h' s3' s4' s5') ∧ ((o = .next ∧ lv t (60 * h) l = 60 * h') ∨ o = .ret (rd (lv t (60 * h) l) 60))
  | [], t0, h, s3, s4, s5, _, _, _, _ => ⟨.next, h, s3, s4, s5, rfl, .inl ⟨rfl, rfl⟩⟩
  | f :: l, t0, h, s3, s4, s5, ok, h3, h4, h5 => by
    obtain ⟨a1, a2, a3, a4, a5, a6, ok'⟩ := ok
    rw [List.map_cons]
    unfold fLoop
    rw [aTg fs t h f h3 h4 h5]
    simp only
    by_cases c1 : t < f.1
    · have e : aBody (aEnv fs t h (some (.sh (.int f.1))) (some (.sh (.int f.2.1))) (some (.sh (.int f.2.2)))) = some (.ok .brk, aEnv fs t h (some (.sh (.int f.1))) (some (.sh (.int f.2.1))) (some (.sh (.int f.2.2)))) := by
        simp only [bT_ok, bT_err, bT_none, bind_ap, pure_ap, of_ap, ofT_some, ofT_none, at0_zero, at0_succ, var_ap, vT_sh, vT_ow, vT_io, cont_ap, cT_ow, cT_io, deref_val, deref_fresh, deref_slot, stab_val, stab_fresh, set0_zero, set0_succ, setC_ap, scT_ow, scT_io, fC_ap, binT_some, binK2_ap, binK1_ap, bin_ap, testT_bl, testK_ap, test_ap, truT_some, truK_ap, truth_ap, andK_t, andK_f, and_ap, orK_f, orK_t, or_ap, notK_ap, not_ap, ifK_t, ifK_f, if_ap, ifS_ap, andVT_t, andVT_f, andVK_ap, andV_ap, orVT_f, orVT_t, orVK_ap, orV_ap, notVT_bl, notVK_ap, notV_ap, chK3_ap, chT0_some, chT_t, chT_f, chK2_ap, chK1_ap, chain_ap, nil_ap, consK2_ap, consK1_ap, cons_ap, cons2_some, stabs_nil, stabs_cons, derefs_nil, derefs_cons, tupK_ap, tup_ap, lstK_ap, lst_ap, tupT_0, tupT_1, tupT_2, tupT_3, lstT_0, lstT_1, lstT_2, lstT_3, cbT_some, cbK_ap, cb_ap, mtT2_some, mtK2_ap, mtK_ap, mt_ap, ty_lst, mutT3_some, mutT2_some, mutK2_ap, mutT0_slot, mut_ap, slT_some, slK3_ap, slK2_ap, slK1_ap, sl_ap, intT_int, partK_ap, part_ap, rg1T_int, rg1K_ap, rg1_ap, rg2T_int, rg2K2_ap, rg2K1_ap, rg2_ap, lrK_ap, listRg_ap, next_ap, seq_ap, sqT_next, sqT_ret, sqT_brk, sqT_cont, sqT_err, dropK_ap, drop_ap, retT_some, retK_ap, ret_ap, retD_val, retD_fresh, owT_ow, retD_slot, io0_n, io0_sh, io0_ow, io0_succ, noIo_ap, asg_nil, asg_cons, asT2_some, asg_valF, asg_freF, asg_freL, asg_freK, asg_freT, parT_some, parK_ap, par_ap, valT_some, valK_ap, val_ap, stT2_some, stT_some, stT0_slot, stK3_ap, stK2_ap, stK1_ap, store_ap, auT3_some, auK3_ap, auT2_some, auT1_some, auT0_slot, auK2_ap, auK1_ap, augS_ap, augT2_int, augK_ap, augT_int, aug_ap, itLT_lst, itLK_ap, itL_ap, itTT_tup, itTK_ap, itT_ap, itR1T_int, itR1K_ap, itR1_ap, itR2T_int, itR2K_ap, itR2_ap, for_ap, lcT_some, lcK_ap, lc_ap, clK_ap, call_ap, clT0_some, clT_ok, clT_err, raise_ap, try_ap, tryT_err, tryT_ok, noErr_ap, neT_ok, share_ap, shT_ow, mkG_ap, enT_ret, enT_next, enT_err, outs_nil, outs_cons, ouT_io, gEq_int, gNe_int, gAdd_int, gSub_int, gLt_int, gLe_int, gGt_int, gGe_int, gInt_int, gAbs_int, gIx_lst, gIx_tup, gLen_lst, gLen_tup, gLen_dK, gTupleOf_lst, gTupleOf_tup, gListOf_lst, gListOf_tup, set_ap, tg_ap, wipe_nil, wipe_cons, pb_nil, pb_cons, noOwn_ap, noT_none, noT_sh, putC_nil, putC_cons, ioL_nil, ioL_cons, ioLT_slot, ioLT_fresh, argOk_nil, argOk_val, argOk_fresh, argOk_slot, clT0_some, List.all_cons, List.all_nil, Bool.and_true, Bool.true_and, Bool.and_self, Bool.not_false, Bool.not_true, eq_self, if_true, if_false, and_true, true_and, and_self, List.length_cons, List.length_nil, List.mem_cons, List.not_mem_nil, or_false, false_or, true_or, decide_true, decide_false, forall_eq, List.getElem?_cons_zero, List.getElem?_cons_succ, Option.map_some, ty_lst, Nat.zero_add, not_false_eq_true, implies_true, false_implies, Nat.lt_add_one, Nat.zero_lt_succ, Nat.reduceLT, Nat.reduceAdd, Nat.reduceEqDiff, mutT_LN, mtT_LN, mutT_lst, mtT_lst, aBody, aEnv, c1]
      rw [e]
      exact ⟨.next, h, _, _, _, rfl, .inl ⟨rfl, lv_late (t0 := f.1) c1 ⟨Int.le_refl _, a2, a3, a4, a5, a6, ok'⟩⟩⟩
    · by_cases c2 : t < f.1 + f.2.1
      · have hp := part_run (a := h * f.2.1 + (f.2.2 - h) * (t - f.1)) (b := f.2.1) (by omega) (by omega)
        have e : aBody (aEnv fs t h (some (.sh (.int f.1))) (some (.sh (.int f.2.1))) (some (.sh (.int f.2.2)))) = some (.ok (.ret (rd (h * f.2.1 + (f.2.2 - h) * (t - f.1)) f.2.1)), aEnv fs t h (some (.sh (.int f.1))) (some (.sh (.int f.2.1))) (some (.sh (.int f.2.2)))) := by
          simp only [bT_ok, bT_err, bT_none, bind_ap, pure_ap, of_ap, ofT_some, ofT_none, at0_zero, at0_succ, var_ap, vT_sh, vT_ow, vT_io, cont_ap, cT_ow, cT_io, deref_val, deref_fresh, deref_slot, stab_val, stab_fresh, set0_zero, set0_succ, setC_ap, scT_ow, scT_io, fC_ap, binT_some, binK2_ap, binK1_ap, bin_ap, testT_bl, testK_ap, test_ap, truT_some, truK_ap, truth_ap, andK_t, andK_f, and_ap, orK_f, orK_t, or_ap, notK_ap, not_ap, ifK_t, ifK_f, if_ap, ifS_ap, andVT_t, andVT_f, andVK_ap, andV_ap, orVT_f, orVT_t, orVK_ap, orV_ap, notVT_bl, notVK_ap, notV_ap, chK3_ap, chT0_some, chT_t, chT_f, chK2_ap, chK1_ap, chain_ap, nil_ap, consK2_ap, consK1_ap, cons_ap, cons2_some, stabs_nil, stabs_cons, derefs_nil, derefs_cons, tupK_ap, tup_ap, lstK_ap, lst_ap, tupT_0, tupT_1, tupT_2, tupT_3, lstT_0, lstT_1, lstT_2, lstT_3, cbT_some, cbK_ap, cb_ap, mtT2_some, mtK2_ap, mtK_ap, mt_ap, ty_lst, mutT3_some, mutT2_some, mutK2_ap, mutT0_slot, mut_ap, slT_some, slK3_ap, slK2_ap, slK1_ap, sl_ap, intT_int, partK_ap, part_ap, rg1T_int, rg1K_ap, rg1_ap, rg2T_int, rg2K2_ap, rg2K1_ap, rg2_ap, lrK_ap, listRg_ap, next_ap, seq_ap, sqT_next, sqT_ret, sqT_brk, sqT_cont, sqT_err, dropK_ap, drop_ap, retT_some, retK_ap, ret_ap, retD_val, retD_fresh, owT_ow, retD_slot, io0_n, io0_sh, io0_ow, io0_succ, noIo_ap, asg_nil, asg_cons, asT2_some, asg_valF, asg_freF, asg_freL, asg_freK, asg_freT, parT_some, parK_ap, par_ap, valT_some, valK_ap, val_ap, stT2_some, stT_some, stT0_slot, stK3_ap, stK2_ap, stK1_ap, store_ap, auT3_some, auK3_ap, auT2_some, auT1_some, auT0_slot, auK2_ap, auK1_ap, augS_ap, augT2_int, augK_ap, augT_int, aug_ap, itLT_lst, itLK_ap, itL_ap, itTT_tup, itTK_ap, itT_ap, itR1T_int, itR1K_ap, itR1_ap, itR2T_int, itR2K_ap, itR2_ap, for_ap, lcT_some, lcK_ap, lc_ap, clK_ap, call_ap, clT0_some, clT_ok, clT_err, raise_ap, try_ap, tryT_err, tryT_ok, noErr_ap, neT_ok, share_ap, shT_ow, mkG_ap, enT_ret, enT_next, enT_err, outs_nil, outs_cons, ouT_io, gEq_int, gNe_int, gAdd_int, gSub_int, gLt_int, gLe_int, gGt_int, gGe_int, gInt_int, gAbs_int, gIx_lst, gIx_tup, gLen_lst, gLen_tup, gLen_dK, gTupleOf_lst, gTupleOf_tup, gListOf_lst, gListOf_tup, set_ap, tg_ap, wipe_nil, wipe_cons, pb_nil, pb_cons, noOwn_ap, noT_none, noT_sh, putC_nil, putC_cons, ioL_nil, ioL_cons, ioLT_slot, ioLT_fresh, argOk_nil, argOk_val, argOk_fresh, argOk_slot, clT0_some, List.all_cons, List.all_nil, Bool.and_true, Bool.true_and, Bool.and_self, Bool.not_false, Bool.not_true, eq_self, if_true, if_false, and_true, true_and, and_self, List.length_cons, List.length_nil, List.mem_cons, List.not_mem_nil, or_false, false_or, true_or, decide_true, decide_false, forall_eq, List.getElem?_cons_zero, List.getElem?_cons_succ, Option.map_some, ty_lst, Nat.zero_add, not_false_eq_true, implies_true, false_implies, Nat.lt_add_one, Nat.zero_lt_succ, Nat.reduceLT, Nat.reduceAdd, Nat.reduceEqDiff, mutT_LN, mtT_LN, mutT_lst, mtT_lst, aBody, aEnv, c1, c2, gMul_b _ (show -100000000 < f.2.1 ∧ f.2.1 < 100000000 by omega), gMul_b _ (show -100000000 < t - f.1 ∧ t - f.1 < 100000000 by omega), hp]
        rw [e]
        refine ⟨_, h, _, _, _, rfl, .inr ?_⟩
        have e1 : lv t (60 * h) (f :: l) = stepL t (60 * h) f := by
          rw [lv]
          exact lv_late c2 ok'
        have e2 := stepL_mid (h := h) (f := f) (t := t) (by omega) c2 a4
        obtain ⟨r1, r2⟩ := red_eq (a := h * f.2.1 + (f.2.2 - h) * (t - f.1)) (b := f.2.1) (c := stepL t (60 * h) f) (d := 60) (by omega) (by decide) e2.symm
        rw [e1]
        unfold rd
        rw [r1, r2]
      · have e : aBody (aEnv fs t h (some (.sh (.int f.1))) (some (.sh (.int f.2.1))) (some (.sh (.int f.2.2)))) = some (.ok .next, aEnv fs t f.2.2 (some (.sh (.int f.1))) (some (.sh (.int f.2.1))) (some (.sh (.int f.2.2)))) := by
          simp only [bT_ok, bT_err, bT_none, bind_ap, pure_ap, of_ap, ofT_some, ofT_none, at0_zero, at0_succ, var_ap, vT_sh, vT_ow, vT_io, cont_ap, cT_ow, cT_io, deref_val, deref_fresh, deref_slot, stab_val, stab_fresh, set0_zero, set0_succ, setC_ap, scT_ow, scT_io, fC_ap, binT_some, binK2_ap, binK1_ap, bin_ap, testT_bl, testK_ap, test_ap, truT_some, truK_ap, truth_ap, andK_t, andK_f, and_ap, orK_f, orK_t, or_ap, notK_ap, not_ap, ifK_t, ifK_f, if_ap, ifS_ap, andVT_t, andVT_f, andVK_ap, andV_ap, orVT_f, orVT_t, orVK_ap, orV_ap, notVT_bl, notVK_ap, notV_ap, chK3_ap, chT0_some, chT_t, chT_f, chK2_ap, chK1_ap, chain_ap, nil_ap, consK2_ap, consK1_ap, cons_ap, cons2_some, stabs_nil, stabs_cons, derefs_nil, derefs_cons, tupK_ap, tup_ap, lstK_ap, lst_ap, tupT_0, tupT_1, tupT_2, tupT_3, lstT_0, lstT_1, lstT_2, lstT_3, cbT_some, cbK_ap, cb_ap, mtT2_some, mtK2_ap, mtK_ap, mt_ap, ty_lst, mutT3_some, mutT2_some, mutK2_ap, mutT0_slot, mut_ap, slT_some, slK3_ap, slK2_ap, slK1_ap, sl_ap, intT_int, partK_ap, part_ap, rg1T_int, rg1K_ap, rg1_ap, rg2T_int, rg2K2_ap, rg2K1_ap, rg2_ap, lrK_ap, listRg_ap, next_ap, seq_ap, sqT_next, sqT_ret, sqT_brk, sqT_cont, sqT_err, dropK_ap, drop_ap, retT_some, retK_ap, ret_ap, retD_val, retD_fresh, owT_ow, retD_slot, io0_n, io0_sh, io0_ow, io0_succ, noIo_ap, asg_nil, asg_cons, asT2_some, asg_valF, asg_freF, asg_freL, asg_freK, asg_freT, parT_some, parK_ap, par_ap, valT_some, valK_ap, val_ap, stT2_some, stT_some, stT0_slot, stK3_ap, stK2_ap, stK1_ap, store_ap, auT3_some, auK3_ap, auT2_some, auT1_some, auT0_slot, auK2_ap, auK1_ap, augS_ap, augT2_int, augK_ap, augT_int, aug_ap, itLT_lst, itLK_ap, itL_ap, itTT_tup, itTK_ap, itT_ap, itR1T_int, itR1K_ap, itR1_ap, itR2T_int, itR2K_ap, itR2_ap, for_ap, lcT_some, lcK_ap, lc_ap, clK_ap, call_ap, clT0_some, clT_ok, clT_err, raise_ap, try_ap, tryT_err, tryT_ok, noErr_ap, neT_ok, share_ap, shT_ow, mkG_ap, enT_ret, enT_next, enT_err, outs_nil, outs_cons, ouT_io, gEq_int, gNe_int, gAdd_int, gSub_int, gLt_int, gLe_int, gGt_int, gGe_int, gInt_int, gAbs_int, gIx_lst, gIx_tup, gLen_lst, gLen_tup, gLen_dK, gTupleOf_lst, gTupleOf_tup, gListOf_lst, gListOf_tup, set_ap, tg_ap, wipe_nil, wipe_cons, pb_nil, pb_cons, noOwn_ap, noT_none, noT_sh, putC_nil, putC_cons, ioL_nil, ioL_cons, ioLT_slot, ioLT_fresh, argOk_nil, argOk_val, argOk_fresh, argOk_slot, clT0_some, List.all_cons, List.all_nil, Bool.and_true, Bool.true_and, Bool.and_self, Bool.not_false, Bool.not_true, eq_self, if_true, if_false, and_true, true_and, and_self, List.length_cons, List.length_nil, List.mem_cons, List.not_mem_nil, or_false, false_or, true_or, decide_true, decide_false, forall_eq, List.getElem?_cons_zero, List.getElem?_cons_succ, Option.map_some, ty_lst, Nat.zero_add, not_false_eq_true, implies_true, false_implies, Nat.lt_add_one, Nat.zero_lt_succ, Nat.reduceLT, Nat.reduceAdd, Nat.reduceEqDiff, mutT_LN, mtT_LN, mutT_lst, mtT_lst, aBody, aEnv, c1, c2]
        rw [e]
        obtain ⟨o, h', b3, b4, b5, e3, e4⟩ := a_loop fs t l (f.1 + f.2.1) f.2.2 (some (.sh (.int f.1))) (some (.sh (.int f.2.1))) (some (.sh (.int f.2.2))) ok' (.inr ⟨_, rfl⟩) (.inr ⟨_, rfl⟩) (.inr ⟨_, rfl⟩)
        refine ⟨o, h', b3, b4, b5, e3, ?_⟩
        rw [lv, stepL_done a3 (by omega)]
        exact e4
theorem rd_one (h : Int) : D.tup [.int h, .int 1] = rd (60 * h) 60 := by
  obtain ⟨r1, r2⟩ := red_eq (a := h) (b := 1) (c := 60 * h) (d := 60) (by decide) (by decide) (by omega)
  unfold rd
  rw [← r1, ← r2]
  unfold rN rD
  rw [Int.gcd_one_right]
  simp
theorem level_run {fs : List Fd} (ok : Okf 0 fs) (t : Int) : g_level_at [FV fs, .int t] = some (.ok (rd (lv t 0 fs) 60), []) := by
  have hst : startD 6 [] [FV fs, .int t] = [some (.sh (FV fs)), some (.sh (.int t)), none, none, none, none] := rfl
  have hc := check_run ok (by omega)
  obtain ⟨o, h', b3, b4, b5, e, e2⟩ := a_loop fs t fs 0 0 none none none ok (.inl rfl) (.inl rfl) (.inl rfl)
  have hd : d_level_at = (fSeq (fDrop (fCall [] 1 g_check_fades (fCons (fVal (fVar 0)) fNil))) (fSeq (fPar [(2, false)] (fCons (fC (.int 0)) fNil)) (fSeq (fFor (fItL (fVar 0)) (t3 3 4 5) aBody) (fRet (fTup (fCons (fVar 2) (fCons (fC (.int 1)) fNil))))))) := rfl
  have hi : ∀ ρ, itLT ρ (some (FV fs)) = some (.ok (fs.map FD), ρ) := fun _ => rfl
  unfold aEnv at e
  have e0 : (60 : Int) * 0 = 0 := rfl
  rw [e0] at e2
  show mkG 6 [] d_level_at _ = _
  rw [mkG_ap, hst, hd]
  rcases e2 with ⟨rfl, e2⟩ | rfl
  · simp only [bT_ok, bT_err, bT_none, bind_ap, pure_ap, of_ap, ofT_some, ofT_none, at0_zero, at0_succ, var_ap, vT_sh, vT_ow, vT_io, cont_ap, cT_ow, cT_io, deref_val, deref_fresh, deref_slot, stab_val, stab_fresh, set0_zero, set0_succ, setC_ap, scT_ow, scT_io, fC_ap, binT_some, binK2_ap, binK1_ap, bin_ap, testT_bl, testK_ap, test_ap, truT_some, truK_ap, truth_ap, andK_t, andK_f, and_ap, orK_f, orK_t, or_ap, notK_ap, not_ap, ifK_t, ifK_f, if_ap, ifS_ap, andVT_t, andVT_f, andVK_ap, andV_ap, orVT_f, orVT_t, orVK_ap, orV_ap, notVT_bl, notVK_ap, notV_ap, chK3_ap, chT0_some, chT_t, chT_f, chK2_ap, chK1_ap, chain_ap, nil_ap, consK2_ap, consK1_ap, cons_ap, cons2_some, stabs_nil, stabs_cons, derefs_nil, derefs_cons, tupK_ap, tup_ap, lstK_ap, lst_ap, tupT_0, tupT_1, tupT_2, tupT_3, lstT_0, lstT_1, lstT_2, lstT_3, cbT_some, cbK_ap, cb_ap, mtT2_some, mtK2_ap, mtK_ap, mt_ap, ty_lst, mutT3_some, mutT2_some, mutK2_ap, mutT0_slot, mut_ap, slT_some, slK3_ap, slK2_ap, slK1_ap, sl_ap, intT_int, partK_ap, part_ap, rg1T_int, rg1K_ap, rg1_ap, rg2T_int, rg2K2_ap, rg2K1_ap, rg2_ap, lrK_ap, listRg_ap, next_ap, seq_ap, sqT_next, sqT_ret, sqT_brk, sqT_cont, sqT_err, dropK_ap, drop_ap, retT_some, retK_ap, ret_ap, retD_val, retD_fresh, owT_ow, retD_slot, io0_n, io0_sh, io0_ow, io0_succ, noIo_ap, asg_nil, asg_cons, asT2_some, asg_valF, asg_freF, asg_freL, asg_freK, asg_freT, parT_some, parK_ap, par_ap, valT_some, valK_ap, val_ap, stT2_some, stT_some, stT0_slot, stK3_ap, stK2_ap, stK1_ap, store_ap, auT3_some, auK3_ap, auT2_some, auT1_some, auT0_slot, auK2_ap, auK1_ap, augS_ap, augT2_int, augK_ap, augT_int, aug_ap, itLT_lst, itLK_ap, itL_ap, itTT_tup, itTK_ap, itT_ap, itR1T_int, itR1K_ap, itR1_ap, itR2T_int, itR2K_ap, itR2_ap, for_ap, lcT_some, lcK_ap, lc_ap, clK_ap, call_ap, clT0_some, clT_ok, clT_err, raise_ap, try_ap, tryT_err, tryT_ok, noErr_ap, neT_ok, share_ap, shT_ow, mkG_ap, enT_ret, enT_next, enT_err, outs_nil, outs_cons, ouT_io, gEq_int, gNe_int, gAdd_int, gSub_int, gLt_int, gLe_int, gGt_int, gGe_int, gInt_int, gAbs_int, gIx_lst, gIx_tup, gLen_lst, gLen_tup, gLen_dK, gTupleOf_lst, gTupleOf_tup, gListOf_lst, gListOf_tup, set_ap, tg_ap, wipe_nil, wipe_cons, pb_nil, pb_cons, noOwn_ap, noT_none, noT_sh, putC_nil, putC_cons, ioL_nil, ioL_cons, ioLT_slot, ioLT_fresh, argOk_nil, argOk_val, argOk_fresh, argOk_slot, clT0_some, List.all_cons, List.all_nil, Bool.and_true, Bool.true_and, Bool.and_self, Bool.not_false, Bool.not_true, eq_self, if_true, if_false, and_true, true_and, and_self, List.length_cons, List.length_nil, List.mem_cons, List.not_mem_nil, or_false, false_or, true_or, decide_true, decide_false, forall_eq, List.getElem?_cons_zero, List.getElem?_cons_succ, Option.map_some, ty_lst, Nat.zero_add, not_false_eq_true, implies_true, false_implies, Nat.lt_add_one, Nat.zero_lt_succ, Nat.reduceLT, Nat.reduceAdd, Nat.reduceEqDiff, mutT_LN, mtT_LN, mutT_lst, mtT_lst, hi, e, hc]
    rw [e2, ← rd_one]
  · simp only [bT_ok, bT_err, bT_none, bind_ap, pure_ap, of_ap, ofT_some, ofT_none, at0_zero, at0_succ, var_ap, vT_sh, vT_ow, vT_io, cont_ap, cT_ow, cT_io, deref_val, deref_fresh, deref_slot, stab_val, stab_fresh, set0_zero, set0_succ, setC_ap, scT_ow, scT_io, fC_ap, binT_some, binK2_ap, binK1_ap, bin_ap, testT_bl, testK_ap, test_ap, truT_some, truK_ap, truth_ap, andK_t, andK_f, and_ap, orK_f, orK_t, or_ap, notK_ap, not_ap, ifK_t, ifK_f, if_ap, ifS_ap, andVT_t, andVT_f, andVK_ap, andV_ap, orVT_f, orVT_t, orVK_ap, orV_ap, notVT_bl, notVK_ap, notV_ap, chK3_ap, chT0_some, chT_t, chT_f, chK2_ap, chK1_ap, chain_ap, nil_ap, consK2_ap, consK1_ap, cons_ap, cons2_some, stabs_nil, stabs_cons, derefs_nil, derefs_cons, tupK_ap, tup_ap, lstK_ap, lst_ap, tupT_0, tupT_1, tupT_2, tupT_3, lstT_0, lstT_1, lstT_2, lstT_3, cbT_some, cbK_ap, cb_ap, mtT2_some, mtK2_ap, mtK_ap, mt_ap, ty_lst, mutT3_some, mutT2_some, mutK2_ap, mutT0_slot, mut_ap, slT_some, slK3_ap, slK2_ap, slK1_ap, sl_ap, intT_int, partK_ap, part_ap, rg1T_int, rg1K_ap, rg1_ap, rg2T_int, rg2K2_ap, rg2K1_ap, rg2_ap, lrK_ap, listRg_ap, next_ap, seq_ap, sqT_next, sqT_ret, sqT_brk, sqT_cont, sqT_err, dropK_ap, drop_ap, retT_some, retK_ap, ret_ap, retD_val, retD_fresh, owT_ow, retD_slot, io0_n, io0_sh, io0_ow, io0_succ, noIo_ap, asg_nil, asg_cons, asT2_some, asg_valF, asg_freF, asg_freL, asg_freK, asg_freT, parT_some, parK_ap, par_ap, valT_some, valK_ap, val_ap, stT2_some, stT_some, stT0_slot, stK3_ap, stK2_ap, stK1_ap, store_ap, auT3_some, auK3_ap, auT2_some, auT1_some, auT0_slot, auK2_ap, auK1_ap, augS_ap, augT2_int, augK_ap, augT_int, aug_ap, itLT_lst, itLK_ap, itL_ap, itTT_tup, itTK_ap, itT_ap, itR1T_int, itR1K_ap, itR1_ap, itR2T_int, itR2K_ap, itR2_ap, for_ap, lcT_some, lcK_ap, lc_ap, clK_ap, call_ap, clT0_some, clT_ok, clT_err, raise_ap, try_ap, tryT_err, tryT_ok, noErr_ap, neT_ok, share_ap, shT_ow, mkG_ap, enT_ret, enT_next, enT_err, outs_nil, outs_cons, ouT_io, gEq_int, gNe_int, gAdd_int, gSub_int, gLt_int, gLe_int, gGt_int, gGe_int, gInt_int, gAbs_int, gIx_lst, gIx_tup, gLen_lst, gLen_tup, gLen_dK, gTupleOf_lst, gTupleOf_tup, gListOf_lst, gListOf_tup, set_ap, tg_ap, wipe_nil, wipe_cons, pb_nil, pb_cons, noOwn_ap, noT_none, noT_sh, putC_nil, putC_cons, ioL_nil, ioL_cons, ioLT_slot, ioLT_fresh, argOk_nil, argOk_val, argOk_fresh, argOk_slot, clT0_some, List.all_cons, List.all_nil, Bool.and_true, Bool.true_and, Bool.and_self, Bool.not_false, Bool.not_true, eq_self, if_true, if_false, and_true, true_and, and_self, List.length_cons, List.length_nil, List.mem_cons, List.not_mem_nil, or_false, false_or, true_or, decide_true, decide_false, forall_eq, List.getElem?_cons_zero, List.getElem?_cons_succ, Option.map_some, ty_lst, Nat.zero_add, not_false_eq_true, implies_true, false_implies, Nat.lt_add_one, Nat.zero_lt_succ, Nat.reduceLT, Nat.reduceAdd, Nat.reduceEqDiff, mutT_LN, mtT_LN, mutT_lst, mtT_lst, hi, e, hc]
end
end K15

namespace K15
open PySem L2 L3
section
variable [Tb]
theorem gMul_c (i : Int) {j : Int} (h : -1000000000000 < j ∧ j < 1000000000000) : gMul (.int i) (.int j) = some (.val (.int (i * j))) := gMul_int ⟨by omega, by omega⟩
theorem gIx_r0 (a b : Int) : gIx (rd a b) (.int 0) = some (.val (.int (rN a b))) := (rfl)
theorem gIx_r1 (a b : Int) : gIx (rd a b) (.int 1) = some (.val (.int (rD a b))) := (rfl)
theorem gIx_rd (a b : Int) (x y : Int) (h : D.tup [.int x, .int y] = rd a b) : rN a b = x ∧ rD a b = y := by
  unfold rd at h
  injection h with h
  injection h with h1 h2
  injection h1 with h1
  injection h2 with h2 _
  injection h2 with h2
  exact ⟨h1.symm, h2.symm⟩
/-! highest -/
def hBody : M Fl := (fSeq (fPar [(4, false)] (fCons (fCall [] 2 g_level_at (fCons (fVal (fVar 3)) (fCons (fVal (fVar 1)) fNil))) fNil))
    (fIfS (fTest (fBin gGt (fBin gMul (fBin gIx (fVar 4) (fC (.int 0))) (fBin gIx (fVar 2) (fC (.int 1)))) (fBin gMul (fBin gIx (fVar 2) (fC (.int 0))) (fBin gIx (fVar 4) (fC (.int 1)))))) (fPar [(2, false)] (fCons (fVar 4) fNil)) fNext))
theorem rD_in (a : Int) : -1000000000000 < rD a 60 ∧ rD a 60 < 1000000000000 := by
  obtain ⟨_, h2, h3⟩ := red_cross (a := a) (b := 60) (by decide)
  omega
theorem hBody_run (v : D) {fs : List Fd} (ok : Okf 0 fs) (t m : Int) {s4 : Option SV} (h4 : okS s4) : ∃ s4', okS s4' ∧ hBody [some (.sh v), some (.sh (.int t)), some (.sh (rd m 60)), some (.sh (FV fs)), s4] = some (.ok .next, [some (.sh v), some (.sh (.int t)), some (.sh (rd (max m (lv t 0 fs)) 60)), some (.sh (FV fs)), s4']) := by
  have hl := level_run ok t
  refine ⟨some (.sh (rd (lv t 0 fs) 60)), .inr ⟨_, rfl⟩, ?_⟩
  by_cases c : lv t 0 fs > m
  · have c' := (cmp_red (a := lv t 0 fs) (b := m)).mpr c
    rw [show max m (lv t 0 fs) = lv t 0 fs by omega]
    simp only [bT_ok, bT_err, bT_none, bind_ap, pure_ap, of_ap, ofT_some, ofT_none, at0_zero, at0_succ, var_ap, vT_sh, vT_ow, vT_io, cont_ap, cT_ow, cT_io, deref_val, deref_fresh, deref_slot, stab_val, stab_fresh, set0_zero, set0_succ, setC_ap, scT_ow, scT_io, fC_ap, binT_some, binK2_ap, binK1_ap, bin_ap, testT_bl, testK_ap, test_ap, truT_some, truK_ap, truth_ap, andK_t, andK_f, and_ap, orK_f, orK_t, or_ap, notK_ap, not_ap, ifK_t, ifK_f, if_ap, ifS_ap, andVT_t, andVT_f, andVK_ap, andV_ap, orVT_f, orVT_t, orVK_ap, orV_ap, notVT_bl, notVK_ap, notV_ap, chK3_ap, chT0_some, chT_t, chT_f, chK2_ap, chK1_ap, chain_ap, nil_ap, consK2_ap, consK1_ap, cons_ap, cons2_some, stabs_nil, stabs_cons, derefs_nil, derefs_cons, tupK_ap, tup_ap, lstK_ap, lst_ap, tupT_0, tupT_1, tupT_2, tupT_3, lstT_0, lstT_1, lstT_2, lstT_3, cbT_some, cbK_ap, cb_ap, mtT2_some, mtK2_ap, mtK_ap, mt_ap, ty_lst, mutT3_some, mutT2_some, mutK2_ap, mutT0_slot, mut_ap, slT_some, slK3_ap, slK2_ap, slK1_ap, sl_ap, intT_int, partK_ap, part_ap, rg1T_int, rg1K_ap, rg1_ap, rg2T_int, rg2K2_ap, rg2K1_ap, rg2_ap, lrK_ap, listRg_ap, next_ap, seq_ap, sqT_next, sqT_ret, sqT_brk, sqT_cont, sqT_err, dropK_ap, drop_ap, retT_some, retK_ap, ret_ap, retD_val, retD_fresh, owT_ow, retD_slot, io0_n, io0_sh, io0_ow, io0_succ, noIo_ap, asg_nil, asg_cons, asT2_some, asg_valF, asg_freF, asg_freL, asg_freK, asg_freT, parT_some, parK_ap, par_ap, valT_some, valK_ap, val_ap, stT2_some, stT_some, stT0_slot, stK3_ap, stK2_ap, stK1_ap, store_ap, auT3_some, auK3_ap, auT2_some, auT1_some, auT0_slot, auK2_ap, auK1_ap, augS_ap, augT2_int, augK_ap, augT_int, aug_ap, itLT_lst, itLK_ap, itL_ap, itTT_tup, itTK_ap, itT_ap, itR1T_int, itR1K_ap, itR1_ap, itR2T_int, itR2K_ap, itR2_ap, for_ap, lcT_some, lcK_ap, lc_ap, clK_ap, call_ap, clT0_some, clT_ok, clT_err, raise_ap, try_ap, tryT_err, tryT_ok, noErr_ap, neT_ok, share_ap, shT_ow, mkG_ap, enT_ret, enT_next, enT_err, outs_nil, outs_cons, ouT_io, gEq_int, gNe_int, gAdd_int, gSub_int, gLt_int, gLe_int, gGt_int, gGe_int, gInt_int, gAbs_int, gIx_lst, gIx_tup, gLen_lst, gLen_tup, gLen_dK, gTupleOf_lst, gTupleOf_tup, gListOf_lst, gListOf_tup, set_ap, tg_ap, wipe_nil, wipe_cons, pb_nil, pb_cons, noOwn_ap, noT_none, noT_sh, putC_nil, putC_cons, ioL_nil, ioL_cons, ioLT_slot, ioLT_fresh, argOk_nil, argOk_val, argOk_fresh, argOk_slot, clT0_some, List.all_cons, List.all_nil, Bool.and_true, Bool.true_and, Bool.and_self, Bool.not_false, Bool.not_true, eq_self, if_true, if_false, and_true, true_and, and_self, List.length_cons, List.length_nil, List.mem_cons, List.not_mem_nil, or_false, false_or, true_or, decide_true, decide_false, forall_eq, List.getElem?_cons_zero, List.getElem?_cons_succ, Option.map_some, ty_lst, Nat.zero_add, not_false_eq_true, implies_true, false_implies, Nat.lt_add_one, Nat.zero_lt_succ, Nat.reduceLT, Nat.reduceAdd, Nat.reduceEqDiff, mutT_LN, mtT_LN, mutT_lst, mtT_lst, hBody, h4.io, hl, gIx_r0, gIx_r1, gMul_c _ (rD_in _), c']
  · have c' : ¬ _ := fun z => c ((cmp_red (a := lv t 0 fs) (b := m)).mp z)
    rw [show max m (lv t 0 fs) = m by omega]
    simp only [bT_ok, bT_err, bT_none, bind_ap, pure_ap, of_ap, ofT_some, ofT_none, at0_zero, at0_succ, var_ap, vT_sh, vT_ow, vT_io, cont_ap, cT_ow, cT_io, deref_val, deref_fresh, deref_slot, stab_val, stab_fresh, set0_zero, set0_succ, setC_ap, scT_ow, scT_io, fC_ap, binT_some, binK2_ap, binK1_ap, bin_ap, testT_bl, testK_ap, test_ap, truT_some, truK_ap, truth_ap, andK_t, andK_f, and_ap, orK_f, orK_t, or_ap, notK_ap, not_ap, ifK_t, ifK_f, if_ap, ifS_ap, andVT_t, andVT_f, andVK_ap, andV_ap, orVT_f, orVT_t, orVK_ap, orV_ap, notVT_bl, notVK_ap, notV_ap, chK3_ap, chT0_some, chT_t, chT_f, chK2_ap, chK1_ap, chain_ap, nil_ap, consK2_ap, consK1_ap, cons_ap, cons2_some, stabs_nil, stabs_cons, derefs_nil, derefs_cons, tupK_ap, tup_ap, lstK_ap, lst_ap, tupT_0, tupT_1, tupT_2, tupT_3, lstT_0, lstT_1, lstT_2, lstT_3, cbT_some, cbK_ap, cb_ap, mtT2_some, mtK2_ap, mtK_ap, mt_ap, ty_lst, mutT3_some, mutT2_some, mutK2_ap, mutT0_slot, mut_ap, slT_some, slK3_ap, slK2_ap, slK1_ap, sl_ap, intT_int, partK_ap, part_ap, rg1T_int, rg1K_ap, rg1_ap, rg2T_int, rg2K2_ap, rg2K1_ap, rg2_ap, lrK_ap, listRg_ap, next_ap, seq_ap, sqT_next, sqT_ret, sqT_brk, sqT_cont, sqT_err, dropK_ap, drop_ap, retT_some, retK_ap, ret_ap, retD_val, retD_fresh, owT_ow, retD_slot, io0_n, io0_sh, io0_ow, io0_succ, noIo_ap, asg_nil, asg_cons, asT2_some, asg_valF, asg_freF, asg_freL, asg_freK, asg_freT, parT_some, parK_ap, par_ap, valT_some, valK_ap, val_ap, stT2_some, stT_some, stT0_slot, stK3_ap, stK2_ap, stK1_ap, store_ap, auT3_some, auK3_ap, auT2_some, auT1_some, auT0_slot, auK2_ap, auK1_ap, augS_ap, augT2_int, augK_ap, augT_int, aug_ap, itLT_lst, itLK_ap, itL_ap, itTT_tup, itTK_ap, itT_ap, itR1T_int, itR1K_ap, itR1_ap, itR2T_int, itR2K_ap, itR2_ap, for_ap, lcT_some, lcK_ap, lc_ap, clK_ap, call_ap, clT0_some, clT_ok, clT_err, raise_ap, try_ap, tryT_err, tryT_ok, noErr_ap, neT_ok, share_ap, shT_ow, mkG_ap, enT_ret, enT_next, enT_err, outs_nil, outs_cons, ouT_io, gEq_int, gNe_int, gAdd_int, gSub_int, gLt_int, gLe_int, gGt_int, gGe_int, gInt_int, gAbs_int, gIx_lst, gIx_tup, gLen_lst, gLen_tup, gLen_dK, gTupleOf_lst, gTupleOf_tup, gListOf_lst, gListOf_tup, set_ap, tg_ap, wipe_nil, wipe_cons, pb_nil, pb_cons, noOwn_ap, noT_none, noT_sh, putC_nil, putC_cons, ioL_nil, ioL_cons, ioLT_slot, ioLT_fresh, argOk_nil, argOk_val, argOk_fresh, argOk_slot, clT0_some, List.all_cons, List.all_nil, Bool.and_true, Bool.true_and, Bool.and_self, Bool.not_false, Bool.not_true, eq_self, if_true, if_false, and_true, true_and, and_self, List.length_cons, List.length_nil, List.mem_cons, List.not_mem_nil, or_false, false_or, true_or, decide_true, decide_false, forall_eq, List.getElem?_cons_zero, List.getElem?_cons_succ, Option.map_some, ty_lst, Nat.zero_add, not_false_eq_true, implies_true, false_implies, Nat.lt_add_one, Nat.zero_lt_succ, Nat.reduceLT, Nat.reduceAdd, Nat.reduceEqDiff, mutT_LN, mtT_LN, mutT_lst, mtT_lst, hBody, h4.io, hl, gIx_r0, gIx_r1, gMul_c _ (rD_in _), c']
theorem highest_run {f1 f2 : List Fd} (o1 : Okf 0 f1) (o2 : Okf 0 f2) (t : Int) : g_highest [.lst [FV f1, FV f2], .int t] = some (.ok (rd (max (lv t 0 f1) (lv t 0 f2)) 60), []) := by
  have hst : startD 5 [] [.lst [FV f1, FV f2], .int t] = [some (.sh (.lst [FV f1, FV f2])), some (.sh (.int t)), none, none, none] := rfl
  have hd : d_highest = (fSeq (fPar [(2, false)] (fCons (fTup (fCons (fC (.int 0)) (fCons (fC (.int 1)) fNil))) fNil)) (fSeq (fFor (fItL (fVar 0)) (fTg 3) hBody) (fRet (fVar 2)))) := rfl
  obtain ⟨s4, h4, e1⟩ := hBody_run (.lst [FV f1, FV f2]) o1 t 0 (s4 := none) (.inl rfl)
  obtain ⟨s4', h4', e2⟩ := hBody_run (.lst [FV f1, FV f2]) o2 t (max 0 (lv t 0 f1)) h4
  have l1 := (lv_in t f1 0 (by omega) o1.smf).1
  have e3 : fLoop (fTg 3) hBody [FV f1, FV f2] [some (.sh (.lst [FV f1, FV f2])), some (.sh (.int t)), some (.sh (rd 0 60)), none, none] = some (.ok .next, [some (.sh (.lst [FV f1, FV f2])), some (.sh (.int t)), some (.sh (rd (max (max 0 (lv t 0 f1)) (lv t 0 f2)) 60)), some (.sh (FV f2)), s4']) := by
    unfold fLoop
    have t1 : fTg 3 (FV f1) [some (.sh (.lst [FV f1, FV f2])), some (.sh (.int t)), some (.sh (rd 0 60)), none, none] = some [some (.sh (.lst [FV f1, FV f2])), some (.sh (.int t)), some (.sh (rd 0 60)), some (.sh (FV f1)), none] := rfl
    rw [t1]
    simp only [e1]
    unfold fLoop
    have t2 : fTg 3 (FV f2) [some (.sh (.lst [FV f1, FV f2])), some (.sh (.int t)), some (.sh (rd (max 0 (lv t 0 f1)) 60)), some (.sh (FV f1)), s4] = some [some (.sh (.lst [FV f1, FV f2])), some (.sh (.int t)), some (.sh (rd (max 0 (lv t 0 f1)) 60)), some (.sh (FV f2)), s4] := rfl
    rw [t2]
    simp only [e2]
    rfl
  have z : D.tup [.int 0, .int 1] = rd 0 60 := rd_one 0
  show mkG 5 [] d_highest _ = _
  rw [mkG_ap, hst, hd]
  simp only [bT_ok, bT_err, bT_none, bind_ap, pure_ap, of_ap, ofT_some, ofT_none, at0_zero, at0_succ, var_ap, vT_sh, vT_ow, vT_io, cont_ap, cT_ow, cT_io, deref_val, deref_fresh, deref_slot, stab_val, stab_fresh, set0_zero, set0_succ, setC_ap, scT_ow, scT_io, fC_ap, binT_some, binK2_ap, binK1_ap, bin_ap, testT_bl, testK_ap, test_ap, truT_some, truK_ap, truth_ap, andK_t, andK_f, and_ap, orK_f, orK_t, or_ap, notK_ap, not_ap, ifK_t, ifK_f, if_ap, ifS_ap, andVT_t, andVT_f, andVK_ap, andV_ap, orVT_f, orVT_t, orVK_ap, orV_ap, notVT_bl, notVK_ap, notV_ap, chK3_ap, chT0_some, chT_t, chT_f, chK2_ap, chK1_ap, chain_ap, nil_ap, consK2_ap, consK1_ap, cons_ap, cons2_some, stabs_nil, stabs_cons, derefs_nil, derefs_cons, tupK_ap, tup_ap, lstK_ap, lst_ap, tupT_0, tupT_1, tupT_2, tupT_3, lstT_0, lstT_1, lstT_2, lstT_3, cbT_some, cbK_ap, cb_ap, mtT2_some, mtK2_ap, mtK_ap, mt_ap, ty_lst, mutT3_some, mutT2_some, mutK2_ap, mutT0_slot, mut_ap, slT_some, slK3_ap, slK2_ap, slK1_ap, sl_ap, intT_int, partK_ap, part_ap, rg1T_int, rg1K_ap, rg1_ap, rg2T_int, rg2K2_ap, rg2K1_ap, rg2_ap, lrK_ap, listRg_ap, next_ap, seq_ap, sqT_next, sqT_ret, sqT_brk, sqT_cont, sqT_err, dropK_ap, drop_ap, retT_some, retK_ap, ret_ap, retD_val, retD_fresh, owT_ow, retD_slot, io0_n, io0_sh, io0_ow, io0_succ, noIo_ap, asg_nil, asg_cons, asT2_some, asg_valF, asg_freF, asg_freL, asg_freK, asg_freT, parT_some, parK_ap, par_ap, valT_some, valK_ap, val_ap, stT2_some, stT_some, stT0_slot, stK3_ap, stK2_ap, stK1_ap, store_ap, auT3_some, auK3_ap, auT2_some, auT1_some, auT0_slot, auK2_ap, auK1_ap, augS_ap, augT2_int, augK_ap, augT_int, aug_ap, itLT_lst, itLK_ap, itL_ap, itTT_tup, itTK_ap, itT_ap, itR1T_int, itR1K_ap, itR1_ap, itR2T_int, itR2K_ap, itR2_ap, for_ap, lcT_some, lcK_ap, lc_ap, clK_ap, call_ap, clT0_some, clT_ok, clT_err, raise_ap, try_ap, tryT_err, tryT_ok, noErr_ap, neT_ok, share_ap, shT_ow, mkG_ap, enT_ret, enT_next, enT_err, outs_nil, outs_cons, ouT_io, gEq_int, gNe_int, gAdd_int, gSub_int, gLt_int, gLe_int, gGt_int, gGe_int, gInt_int, gAbs_int, gIx_lst, gIx_tup, gLen_lst, gLen_tup, gLen_dK, gTupleOf_lst, gTupleOf_tup, gListOf_lst, gListOf_tup, set_ap, tg_ap, wipe_nil, wipe_cons, pb_nil, pb_cons, noOwn_ap, noT_none, noT_sh, putC_nil, putC_cons, ioL_nil, ioL_cons, ioLT_slot, ioLT_fresh, argOk_nil, argOk_val, argOk_fresh, argOk_slot, clT0_some, List.all_cons, List.all_nil, Bool.and_true, Bool.true_and, Bool.and_self, Bool.not_false, Bool.not_true, eq_self, if_true, if_false, and_true, true_and, and_self, List.length_cons, List.length_nil, List.mem_cons, List.not_mem_nil, or_false, false_or, true_or, decide_true, decide_false, forall_eq, List.getElem?_cons_zero, List.getElem?_cons_succ, Option.map_some, ty_lst, Nat.zero_add, not_false_eq_true, implies_true, false_implies, Nat.lt_add_one, Nat.zero_lt_succ, Nat.reduceLT, Nat.reduceAdd, Nat.reduceEqDiff, mutT_LN, mtT_LN, mutT_lst, mtT_lst, z, e3]
  rw [show max 0 (lv t 0 f1) = lv t 0 f1 by omega]
/-! light -/
def lBody : M Fl := (fSeq (fIfS (fTest (fBin gGe (fVar 6) (fVar 1))) (M.pure .brk) fNext)
    (fSeq (fAug 2 (fun i j => i + j) (fBin gMul (fBin gMul (fVar 4) (fBin gSub (fVar 6) (fVar 5))) (fVar 3)))
    (fSeq (fPar [(9, false)] (fCons (fCB gMin (fCons (fVar 1) (fCons (fBin gAdd (fVar 6) (fVar 7)) fNil))) fNil))
    (fSeq (fPar [(10, false)] (fCons (fIf (fTest (fBin gLt (fVar 9) (fBin gAdd (fVar 6) (fVar 7)))) (fCall [] 2 g_level_at (fCons (fVal (fVar 0)) (fCons (fVal (fVar 9)) fNil))) (fTup (fCons (fVar 8) (fCons (fC (.int 1)) fNil)))) fNil))
    (fSeq (fPar [(11, false)] (fCons (fBin gSub (fVar 9) (fVar 6)) fNil))
    (fSeq (fPar [(2, false), (3, false)] (fCons (fBin gAdd (fBin gMul (fBin gMul (fVar 2) (fC (.int 2))) (fBin gIx (fVar 10) (fC (.int 1)))) (fBin gMul (fBin gMul (fVar 11) (fBin gAdd (fBin gMul (fVar 4) (fBin gIx (fVar 10) (fC (.int 1)))) (fBin gIx (fVar 10) (fC (.int 0))))) (fVar 3))) (fCons (fBin gMul (fBin gMul (fVar 3) (fC (.int 2))) (fBin gIx (fVar 10) (fC (.int 1)))) fNil)))
    (fPar [(4, false), (5, false)] (fCons (fVar 8) (fCons (fVar 9) fNil)))))))))
def lEnv (fs : List Fd) (u o un h n : Int) (s6 s7 s8 s9 s10 s11 : Option SV) : DEnv := [some (.sh (FV fs)), some (.sh (.int u)), some (.sh (.int o)), some (.sh (.int un)), some (.sh (.int h)), some (.sh (.int n)), s6, s7, s8, s9, s10, s11]
theorem lTg (fs : List Fd) (u o un h n : Int) (f : Fd) {s6 s7 s8 s9 s10 s11 : Option SV} (h6 : okS s6) (h7 : okS s7) (h8 : okS s8) : t3 6 7 8 (FD f) (lEnv fs u o un h n s6 s7 s8 s9 s10 s11) = some (lEnv fs u o un h n (some (.sh (.int f.1))) (some (.sh (.int f.2.1))) (some (.sh (.int f.2.2))) s9 s10 s11) := by
  rcases h6 with rfl | ⟨d3, rfl⟩ <;> rcases h7 with rfl | ⟨d4, rfl⟩ <;> rcases h8 with rfl | ⟨d5, rfl⟩ <;> rfl
def eE (fs : List Fd) (u : Int) (f : Fd) : Int := if min u (f.1 + f.2.1) < f.1 + f.2.1 then lv (min u (f.1 + f.2.1)) 0 fs else 60 * f.2.2
theorem eE_in {fs : List Fd} (ok : Okf 0 fs) (u : Int) {f : Fd} (hf : Smf f) : 0 ≤ eE fs u f ∧ eE fs u f ≤ 6000 := by
  unfold eE
  split
  · exact lv_in _ fs 0 (by omega) ok.smf
  · have := hf.2.2
    omega
theorem lBody_run {fs : List Fd} (ok : Okf 0 fs) {u o un h n : Int} {f : Fd} (hf : Smf f) (hb : f.1 < u) (hb0 : 0 ≤ f.1) (hu : u ≤ 1000) (hn : 0 ≤ n ∧ n ≤ 2000) (hh : 0 ≤ h ∧ h ≤ 100) (hun : 0 < un ∧ un < 1000000000) {s9' s10' s11' : Option SV} (h9 : okS s9') (h10 : okS s10') (h11 : okS s11') :
    ∃ s9 s10 s11, okS s9 ∧ okS s10 ∧ okS s11 ∧ lBody (lEnv fs u o un h n (some (.sh (.int f.1))) (some (.sh (.int f.2.1))) (some (.sh (.int f.2.2))) s9' s10' s11') = some (.ok .next, lEnv fs u ((o + h * (f.1 - n) * un) * 2 * rD (eE fs u f) 60 + (min u (f.1 + f.2.1) - f.1) * (h * rD (eE fs u f) 60 + rN (eE fs u f) 60) * un) (un * 2 * rD (eE fs u f) 60) f.2.2 (min u (f.1 + f.2.1)) (some (.sh (.int f.1))) (some (.sh (.int f.2.1))) (some (.sh (.int f.2.2))) s9 s10 s11) := by
  obtain ⟨a1, a2, a3, a4⟩ := hf
  have hE := eE_in ok u (f := f) ⟨a1, a2, a3, a4⟩
  obtain ⟨_, hD0, hD1⟩ := red_cross (a := eE fs u f) (b := 60) (by decide)
  have hN := rN_le (a := eE fs u f) (b := 60) (by decide) hE.1
  have nb : ¬ f.1 ≥ u := by omega
  have b1 : 0 ≤ h * rD (eE fs u f) 60 := Int.mul_nonneg hh.1 (by omega)
  have b2 : h * rD (eE fs u f) 60 ≤ 100 * 60 := Int.mul_le_mul hh.2 hD1 (by omega) (by omega)
  have m1 : ∀ i : Int, gMul (.int i) (.int (f.1 - n)) = some (.val (.int (i * (f.1 - n)))) := fun i => gMul_c i (by omega)
  have m2 : ∀ i : Int, gMul (.int i) (.int un) = some (.val (.int (i * un))) := fun i => gMul_c i (by omega)
  have m3 : ∀ i : Int, gMul (.int i) (.int 2) = some (.val (.int (i * 2))) := fun i => gMul_c i (by omega)
  have m4 : ∀ i : Int, gMul (.int i) (.int (rD (eE fs u f) 60)) = some (.val (.int (i * rD (eE fs u f) 60))) := fun i => gMul_c i (by omega)
  have m5 : ∀ i : Int, gMul (.int i) (.int (h * rD (eE fs u f) 60 + rN (eE fs u f) 60)) = some (.val (.int (i * (h * rD (eE fs u f) 60 + rN (eE fs u f) 60)))) := fun i => gMul_c i (by omega)
  refine ⟨some (.sh (.int (min u (f.1 + f.2.1)))), some (.sh (rd (eE fs u f) 60)), some (.sh (.int (min u (f.1 + f.2.1) - f.1))), .inr ⟨_, rfl⟩, .inr ⟨_, rfl⟩, .inr ⟨_, rfl⟩, ?_⟩
  by_cases c : min u (f.1 + f.2.1) < f.1 + f.2.1
  · have eE1 : eE fs u f = lv (min u (f.1 + f.2.1)) 0 fs := if_pos c
    have hl : g_level_at [FV fs, .int (min u (f.1 + f.2.1))] = some (.ok (rd (eE fs u f) 60), []) := by rw [eE1]; exact level_run ok _
    simp only [bT_ok, bT_err, bT_none, bind_ap, pure_ap, of_ap, ofT_some, ofT_none, at0_zero, at0_succ, var_ap, vT_sh, vT_ow, vT_io, cont_ap, cT_ow, cT_io, deref_val, deref_fresh, deref_slot, stab_val, stab_fresh, set0_zero, set0_succ, setC_ap, scT_ow, scT_io, fC_ap, binT_some, binK2_ap, binK1_ap, bin_ap, testT_bl, testK_ap, test_ap, truT_some, truK_ap, truth_ap, andK_t, andK_f, and_ap, orK_f, orK_t, or_ap, notK_ap, not_ap, ifK_t, ifK_f, if_ap, ifS_ap, andVT_t, andVT_f, andVK_ap, andV_ap, orVT_f, orVT_t, orVK_ap, orV_ap, notVT_bl, notVK_ap, notV_ap, chK3_ap, chT0_some, chT_t, chT_f, chK2_ap, chK1_ap, chain_ap, nil_ap, consK2_ap, consK1_ap, cons_ap, cons2_some, stabs_nil, stabs_cons, derefs_nil, derefs_cons, tupK_ap, tup_ap, lstK_ap, lst_ap, tupT_0, tupT_1, tupT_2, tupT_3, lstT_0, lstT_1, lstT_2, lstT_3, cbT_some, cbK_ap, cb_ap, mtT2_some, mtK2_ap, mtK_ap, mt_ap, ty_lst, mutT3_some, mutT2_some, mutK2_ap, mutT0_slot, mut_ap, slT_some, slK3_ap, slK2_ap, slK1_ap, sl_ap, intT_int, partK_ap, part_ap, rg1T_int, rg1K_ap, rg1_ap, rg2T_int, rg2K2_ap, rg2K1_ap, rg2_ap, lrK_ap, listRg_ap, next_ap, seq_ap, sqT_next, sqT_ret, sqT_brk, sqT_cont, sqT_err, dropK_ap, drop_ap, retT_some, retK_ap, ret_ap, retD_val, retD_fresh, owT_ow, retD_slot, io0_n, io0_sh, io0_ow, io0_succ, noIo_ap, asg_nil, asg_cons, asT2_some, asg_valF, asg_freF, asg_freL, asg_freK, asg_freT, parT_some, parK_ap, par_ap, valT_some, valK_ap, val_ap, stT2_some, stT_some, stT0_slot, stK3_ap, stK2_ap, stK1_ap, store_ap, auT3_some, auK3_ap, auT2_some, auT1_some, auT0_slot, auK2_ap, auK1_ap, augS_ap, augT2_int, augK_ap, augT_int, aug_ap, itLT_lst, itLK_ap, itL_ap, itTT_tup, itTK_ap, itT_ap, itR1T_int, itR1K_ap, itR1_ap, itR2T_int, itR2K_ap, itR2_ap, for_ap, lcT_some, lcK_ap, lc_ap, clK_ap, call_ap, clT0_some, clT_ok, clT_err, raise_ap, try_ap, tryT_err, tryT_ok, noErr_ap, neT_ok, share_ap, shT_ow, mkG_ap, enT_ret, enT_next, enT_err, outs_nil, outs_cons, ouT_io, gEq_int, gNe_int, gAdd_int, gSub_int, gLt_int, gLe_int, gGt_int, gGe_int, gInt_int, gAbs_int, gIx_lst, gIx_tup, gLen_lst, gLen_tup, gLen_dK, gTupleOf_lst, gTupleOf_tup, gListOf_lst, gListOf_tup, set_ap, tg_ap, wipe_nil, wipe_cons, pb_nil, pb_cons, noOwn_ap, noT_none, noT_sh, putC_nil, putC_cons, ioL_nil, ioL_cons, ioLT_slot, ioLT_fresh, argOk_nil, argOk_val, argOk_fresh, argOk_slot, clT0_some, List.all_cons, List.all_nil, Bool.and_true, Bool.true_and, Bool.and_self, Bool.not_false, Bool.not_true, eq_self, if_true, if_false, and_true, true_and, and_self, List.length_cons, List.length_nil, List.mem_cons, List.not_mem_nil, or_false, false_or, true_or, decide_true, decide_false, forall_eq, List.getElem?_cons_zero, List.getElem?_cons_succ, Option.map_some, ty_lst, Nat.zero_add, not_false_eq_true, implies_true, false_implies, Nat.lt_add_one, Nat.zero_lt_succ, Nat.reduceLT, Nat.reduceAdd, Nat.reduceEqDiff, mutT_LN, mtT_LN, mutT_lst, mtT_lst, lBody, lEnv, nb, m1, m2, m3, m4, m5, gMin_I, h9.io, h10.io, h11.io, c, hl, gIx_r0, gIx_r1]
  · have eE1 : eE fs u f = 60 * f.2.2 := if_neg c
    have hr : D.tup [.int f.2.2, .int 1] = rd (eE fs u f) 60 := by rw [eE1]; exact rd_one _
    simp only [bT_ok, bT_err, bT_none, bind_ap, pure_ap, of_ap, ofT_some, ofT_none, at0_zero, at0_succ, var_ap, vT_sh, vT_ow, vT_io, cont_ap, cT_ow, cT_io, deref_val, deref_fresh, deref_slot, stab_val, stab_fresh, set0_zero, set0_succ, setC_ap, scT_ow, scT_io, fC_ap, binT_some, binK2_ap, binK1_ap, bin_ap, testT_bl, testK_ap, test_ap, truT_some, truK_ap, truth_ap, andK_t, andK_f, and_ap, orK_f, orK_t, or_ap, notK_ap, not_ap, ifK_t, ifK_f, if_ap, ifS_ap, andVT_t, andVT_f, andVK_ap, andV_ap, orVT_f, orVT_t, orVK_ap, orV_ap, notVT_bl, notVK_ap, notV_ap, chK3_ap, chT0_some, chT_t, chT_f, chK2_ap, chK1_ap, chain_ap, nil_ap, consK2_ap, consK1_ap, cons_ap, cons2_some, stabs_nil, stabs_cons, derefs_nil, derefs_cons, tupK_ap, tup_ap, lstK_ap, lst_ap, tupT_0, tupT_1, tupT_2, tupT_3, lstT_0, lstT_1, lstT_2, lstT_3, cbT_some, cbK_ap, cb_ap, mtT2_some, mtK2_ap, mtK_ap, mt_ap, ty_lst, mutT3_some, mutT2_some, mutK2_ap, mutT0_slot, mut_ap, slT_some, slK3_ap, slK2_ap, slK1_ap, sl_ap, intT_int, partK_ap, part_ap, rg1T_int, rg1K_ap, rg1_ap, rg2T_int, rg2K2_ap, rg2K1_ap, rg2_ap, lrK_ap, listRg_ap, next_ap, seq_ap, sqT_next, sqT_ret, sqT_brk, sqT_cont, sqT_err, dropK_ap, drop_ap, retT_some, retK_ap, ret_ap, retD_val, retD_fresh, owT_ow, retD_slot, io0_n, io0_sh, io0_ow, io0_succ, noIo_ap, asg_nil, asg_cons, asT2_some, asg_valF, asg_freF, asg_freL, asg_freK, asg_freT, parT_some, parK_ap, par_ap, valT_some, valK_ap, val_ap, stT2_some, stT_some, stT0_slot, stK3_ap, stK2_ap, stK1_ap, store_ap, auT3_some, auK3_ap, auT2_some, auT1_some, auT0_slot, auK2_ap, auK1_ap, augS_ap, augT2_int, augK_ap, augT_int, aug_ap, itLT_lst, itLK_ap, itL_ap, itTT_tup, itTK_ap, itT_ap, itR1T_int, itR1K_ap, itR1_ap, itR2T_int, itR2K_ap, itR2_ap, for_ap, lcT_some, lcK_ap, lc_ap, clK_ap, call_ap, clT0_some, clT_ok, clT_err, raise_ap, try_ap, tryT_err, tryT_ok, noErr_ap, neT_ok, share_ap, shT_ow, mkG_ap, enT_ret, enT_next, enT_err, outs_nil, outs_cons, ouT_io, gEq_int, gNe_int, gAdd_int, gSub_int, gLt_int, gLe_int, gGt_int, gGe_int, gInt_int, gAbs_int, gIx_lst, gIx_tup, gLen_lst, gLen_tup, gLen_dK, gTupleOf_lst, gTupleOf_tup, gListOf_lst, gListOf_tup, set_ap, tg_ap, wipe_nil, wipe_cons, pb_nil, pb_cons, noOwn_ap, noT_none, noT_sh, putC_nil, putC_cons, ioL_nil, ioL_cons, ioLT_slot, ioLT_fresh, argOk_nil, argOk_val, argOk_fresh, argOk_slot, clT0_some, List.all_cons, List.all_nil, Bool.and_true, Bool.true_and, Bool.and_self, Bool.not_false, Bool.not_true, eq_self, if_true, if_false, and_true, true_and, and_self, List.length_cons, List.length_nil, List.mem_cons, List.not_mem_nil, or_false, false_or, true_or, decide_true, decide_false, forall_eq, List.getElem?_cons_zero, List.getElem?_cons_succ, Option.map_some, ty_lst, Nat.zero_add, not_false_eq_true, implies_true, false_implies, Nat.lt_add_one, Nat.zero_lt_succ, Nat.reduceLT, Nat.reduceAdd, Nat.reduceEqDiff, mutT_LN, mtT_LN, mutT_lst, mtT_lst, lBody, lEnv, nb, m1, m2, m3, m4, m5, gMin_I, h9.io, h10.io, h11.io, c, hr, gIx_r0, gIx_r1]
end
end K15

namespace K15
open PySem L2 L3
theorem area {o w h b n un e1 e0 wd E : Int} (h1 : o * 120 = w * un) (h2 : e0 * 60 = E * e1) : ((o + h * (b - n) * un) * 2 * e1 + wd * (h * e1 + e0) * un) * 120 = (w + 120 * h * (b - n) + (60 * h + E) * wd) * (un * 2 * e1) := by
  grind
theorem area0 {o w h m un : Int} (h1 : o * 120 = w * un) : (o + h * m * un) * 120 = (w + 120 * h * m) * un := by
  grind
theorem pow_next (k : Nat) : (120 : Int) ^ (k + 1) = 120 * 120 ^ k := by rw [Int.pow_succ, Int.mul_comm]
theorem pow_pos' (k : Nat) : 1 ≤ (120 : Int) ^ k := by
  induction k with
  | zero => decide
  | succ k ih => rw [pow_next]; omega
section
variable [Tb]
theorem l_loop {fs : List Fd} (ok : Okf 0 fs) {u : Int} (hu : u ≤ 1000) : ∀ (l : List Fd) (t0 o un h n w : Int) (s6 s7 s8 s9 s10 s11 : Option SV), Okf t0 l → 0 ≤ n → n ≤ t0 → n ≤ u → 0 ≤ t0 → 0 ≤ h → h ≤ 100 → 0 < un → un * 120 ^ l.length < 1000000000 → o * 120 = w * un → okS s6 → okS s7 → okS s8 → okS s9 → okS s10 → okS s11 →
    ∃ o' un' h' n' s6' s7' s8' s9' s10' s11', fLoop (t3 6 7 8) lBody (l.map FD) (lEnv fs u o un h n s6 s7 s8 s9 s10 s11) = some (.ok .next, lEnv fs u o' un' h' n' s6' s7' s8' s9' s10' s11') ∧ 0 < un' ∧ un' < 1000000000 ∧ 0 ≤ n' ∧ n' ≤ u ∧ 0 ≤ h' ∧ h' ≤ 100 ∧ (o' + h' * max 0 (u - n') * un') * 120 = wF u (l.foldl (wS u fs) (w, h, n)) * un'
  | [], t0, o, un, h, n, w, s6, s7, s8, s9, s10, s11, ok', n0, n1, n2, n3, h0, h1, u0, u1, he, h6, h7, h8, h9, h10, h11 =>
    ⟨o, un, h, n, s6, s7, s8, s9, s10, s11, rfl, u0, by simpa using u1, n0, n2, h0, h1, area0 he⟩
  | f :: l, t0, o, un, h, n, w, s6, s7, s8, s9, s10, s11, ok', n0, n1, n2, n3, h0, h1, u0, u1, he, h6, h7, h8, h9, h10, h11 => by
    obtain ⟨a1, a2, a3, a4, a5, a6, ok2⟩ := id ok'
    have hp := pow_pos' l.length
    have hune : un * 120 * 120 ^ l.length < 1000000000 := by
      rw [List.length_cons, pow_next, ← Int.mul_assoc] at u1
      exact u1
    have hunl : un ≤ un * 120 * 120 ^ l.length := by
      have x1 : un * 120 * 1 ≤ un * 120 * 120 ^ l.length := Int.mul_le_mul_of_nonneg_left hp (by omega)
      omega
    rw [List.map_cons]
    unfold fLoop
    rw [lTg fs u o un h n f h6 h7 h8]
    simp only
    by_cases c : f.1 ≥ u
    · have e : lBody (lEnv fs u o un h n (some (.sh (.int f.1))) (some (.sh (.int f.2.1))) (some (.sh (.int f.2.2))) s9 s10 s11) = some (.ok .brk, lEnv fs u o un h n (some (.sh (.int f.1))) (some (.sh (.int f.2.1))) (some (.sh (.int f.2.2))) s9 s10 s11) := by
        simp only [bT_ok, bT_err, bT_none, bind_ap, pure_ap, of_ap, ofT_some, ofT_none, at0_zero, at0_succ, var_ap, vT_sh, vT_ow, vT_io, cont_ap, cT_ow, cT_io, deref_val, deref_fresh, deref_slot, stab_val, stab_fresh, set0_zero, set0_succ, setC_ap, scT_ow, scT_io, fC_ap, binT_some, binK2_ap, binK1_ap, bin_ap, testT_bl, testK_ap, test_ap, truT_some, truK_ap, truth_ap, andK_t, andK_f, and_ap, orK_f, orK_t, or_ap, notK_ap, not_ap, ifK_t, ifK_f, if_ap, ifS_ap, andVT_t, andVT_f, andVK_ap, andV_ap, orVT_f, orVT_t, orVK_ap, orV_ap, notVT_bl, notVK_ap, notV_ap, chK3_ap, chT0_some, chT_t, chT_f, chK2_ap, chK1_ap, chain_ap, nil_ap, consK2_ap, consK1_ap, cons_ap, cons2_some, stabs_nil, stabs_cons, derefs_nil, derefs_cons, tupK_ap, tup_ap, lstK_ap, lst_ap, tupT_0, tupT_1, tupT_2, tupT_3, lstT_0, lstT_1, lstT_2, lstT_3, cbT_some, cbK_ap, cb_ap, mtT2_some, mtK2_ap, mtK_ap, mt_ap, ty_lst, mutT3_some, mutT2_some, mutK2_ap, mutT0_slot, mut_ap, slT_some, slK3_ap, slK2_ap, slK1_ap, sl_ap, intT_int, partK_ap, part_ap, rg1T_int, rg1K_ap, rg1_ap, rg2T_int, rg2K2_ap, rg2K1_ap, rg2_ap, lrK_ap, listRg_ap, next_ap, seq_ap, sqT_next, sqT_ret, sqT_brk, sqT_cont, sqT_err, dropK_ap, drop_ap, retT_some, retK_ap, ret_ap, retD_val, retD_fresh, owT_ow, retD_slot, io0_n, io0_sh, io0_ow, io0_succ, noIo_ap, asg_nil, asg_cons, asT2_some, asg_valF, asg_freF, asg_freL, asg_freK, asg_freT, parT_some, parK_ap, par_ap, valT_some, valK_ap, val_ap, stT2_some, stT_some, stT0_slot, stK3_ap, stK2_ap, stK1_ap, store_ap, auT3_some, auK3_ap, auT2_some, auT1_some, auT0_slot, auK2_ap, auK1_ap, augS_ap, augT2_int, augK_ap, augT_int, aug_ap, itLT_lst, itLK_ap, itL_ap, itTT_tup, itTK_ap, itT_ap, itR1T_int, itR1K_ap, itR1_ap, itR2T_int, itR2K_ap, itR2_ap, for_ap, lcT_some, lcK_ap, lc_ap, clK_ap, call_ap, clT0_some, clT_ok, clT_err, raise_ap, try_ap, tryT_err, tryT_ok, noErr_ap, neT_ok, share_ap, shT_ow, mkG_ap, enT_ret, enT_next, enT_err, outs_nil, outs_cons, ouT_io, gEq_int, gNe_int, gAdd_int, gSub_int, gLt_int, gLe_int, gGt_int, gGe_int, gInt_int, gAbs_int, gIx_lst, gIx_tup, gLen_lst, gLen_tup, gLen_dK, gTupleOf_lst, gTupleOf_tup, gListOf_lst, gListOf_tup, set_ap, tg_ap, wipe_nil, wipe_cons, pb_nil, pb_cons, noOwn_ap, noT_none, noT_sh, putC_nil, putC_cons, ioL_nil, ioL_cons, ioLT_slot, ioLT_fresh, argOk_nil, argOk_val, argOk_fresh, argOk_slot, clT0_some, List.all_cons, List.all_nil, Bool.and_true, Bool.true_and, Bool.and_self, Bool.not_false, Bool.not_true, eq_self, if_true, if_false, and_true, true_and, and_self, List.length_cons, List.length_nil, List.mem_cons, List.not_mem_nil, or_false, false_or, true_or, decide_true, decide_false, forall_eq, List.getElem?_cons_zero, List.getElem?_cons_succ, Option.map_some, ty_lst, Nat.zero_add, not_false_eq_true, implies_true, false_implies, Nat.lt_add_one, Nat.zero_lt_succ, Nat.reduceLT, Nat.reduceAdd, Nat.reduceEqDiff, mutT_LN, mtT_LN, mutT_lst, mtT_lst, lBody, lEnv, c]
      rw [e]
      refine ⟨o, un, h, n, _, _, _, _, _, _, rfl, u0, by omega, n0, n2, h0, h1, ?_⟩
      rw [w_late (f :: l) (w, h, n) f.1 c n2 ⟨Int.le_refl _, a2, a3, a4, a5, a6, ok2⟩]
      exact area0 he
    · have hE := eE_in ok u (f := f) ⟨a3, a4, a5, a6⟩
      obtain ⟨hc1, hD0, hD1⟩ := red_cross (a := eE fs u f) (b := 60) (by decide)
      obtain ⟨s9', s10', s11', h9', h10', h11', e⟩ := lBody_run ok (f := f) ⟨a3, a4, a5, a6⟩ (u := u) (o := o) (un := un) (h := h) (n := n) (by omega) (by omega) hu (by omega) ⟨h0, h1⟩ (by omega) h9 h10 h11
      rw [e]
      have hun2 : un * 2 * rD (eE fs u f) 60 ≤ un * 120 := by
        have : un * 2 * rD (eE fs u f) 60 ≤ un * 2 * 60 := Int.mul_le_mul_of_nonneg_left hD1 (by omega)
        omega
      have hst : wS u fs (w, h, n) f = (w + 120 * h * (f.1 - n) + (60 * h + eE fs u f) * (min u (f.1 + f.2.1) - f.1), f.2.2, min u (f.1 + f.2.1)) := by
        unfold wS
        rw [if_pos (by omega)]
        simp only
        rw [show min u f.1 = f.1 by omega, show max 0 (f.1 - n) = f.1 - n by omega]
        rfl
      obtain ⟨o', un', h', n', b6, b7, b8, b9, b10, b11, e2, r⟩ := l_loop ok hu l (f.1 + f.2.1) _ (un * 2 * rD (eE fs u f) 60) f.2.2 (min u (f.1 + f.2.1)) (w + 120 * h * (f.1 - n) + (60 * h + eE fs u f) * (min u (f.1 + f.2.1) - f.1)) (some (.sh (.int f.1))) (some (.sh (.int f.2.1))) (some (.sh (.int f.2.2))) s9' s10' s11' ok2 (by omega) (by omega) (by omega) (by omega) a5 a6 (Int.mul_pos (by omega) hD0) (Int.lt_of_le_of_lt (Int.mul_le_mul_of_nonneg_right hun2 (by omega)) hune) (area he hc1) (.inr ⟨_, rfl⟩) (.inr ⟨_, rfl⟩) (.inr ⟨_, rfl⟩) h9' h10' h11'
      refine ⟨o', un', h', n', b6, b7, b8, b9, b10, b11, e2, ?_⟩
      rw [List.foldl_cons, hst]
      exact r
theorem light_run {fs : List Fd} (ok : Okf 0 fs) (hl : fs.length ≤ 4) {u : Int} (hu0 : 0 ≤ u) (hu : u ≤ 1000) : g_light [FV fs, .int u] = some (.ok (rd (wF u (fs.foldl (wS u fs) (0, 0, 0))) 120), []) := by
  have hst : startD 12 [] [FV fs, .int u] = [some (.sh (FV fs)), some (.sh (.int u)), none, none, none, none, none, none, none, none, none, none] := rfl
  have hc := check_run ok (by omega)
  have hpw : (1 : Int) * 120 ^ fs.length < 1000000000 := by
    have : fs.length = 0 ∨ fs.length = 1 ∨ fs.length = 2 ∨ fs.length = 3 ∨ fs.length = 4 := by omega
    rcases this with e | e | e | e | e <;> rw [e] <;> decide
  obtain ⟨o', un', h', n', b6, b7, b8, b9, b10, b11, e, u0, u1, n0, n1, h0, h1, r⟩ := l_loop ok hu fs 0 0 1 0 0 0 none none none none none none ok (by omega) (by omega) hu0 (by omega) (by omega) (by omega) (by omega) hpw (by omega) (.inl rfl) (.inl rfl) (.inl rfl) (.inl rfl) (.inl rfl) (.inl rfl)
  have hd : d_light = (fSeq (fDrop (fCall [] 1 g_check_fades (fCons (fVal (fVar 0)) fNil))) (fSeq (fPar [(2, false), (3, false), (4, false), (5, false)] (fCons (fC (.int 0)) (fCons (fC (.int 1)) (fCons (fC (.int 0)) (fCons (fC (.int 0)) fNil)))))
    (fSeq (fFor (fItL (fVar 0)) (t3 6 7 8) lBody) (fSeq (fIfS (fTest (fBin gLt (fVar 5) (fVar 1))) (fAug 2 (fun i j => i + j) (fBin gMul (fBin gMul (fVar 4) (fBin gSub (fVar 1) (fVar 5))) (fVar 3))) fNext)
    (fRet (fCall [] 2 g_part (fCons (fVal (fVar 2)) (fCons (fVal (fVar 3)) fNil))))))) ) := rfl
  have hi : ∀ ρ, itLT ρ (some (FV fs)) = some (.ok (fs.map FD), ρ) := fun _ => rfl
  have hp := part_run (a := o' + h' * max 0 (u - n') * un') (b := un') u0 u1
  obtain ⟨r1, r2⟩ := red_eq (a := o' + h' * max 0 (u - n') * un') (b := un') (c := wF u (fs.foldl (wS u fs) (0, 0, 0))) (d := 120) u0 (by decide) r
  have hrd : rd (wF u (fs.foldl (wS u fs) (0, 0, 0))) 120 = rd (o' + h' * max 0 (u - n') * un') un' := by
    unfold rd
    rw [r1, r2]
  rw [hrd]
  unfold lEnv at e
  have e' : fLoop (t3 6 7 8) lBody (fs.map FD) [some (.sh (FV fs)), some (.sh (.int u)), some (.sh (.int 0)), some (.sh (.int 1)), some (.sh (.int 0)), some (.sh (.int 0)), none, none, none, none, none, none] = _ := e
  show mkG 12 [] d_light _ = _
  rw [mkG_ap, hst, hd]
  by_cases c : n' < u
  · rw [show max 0 (u - n') = u - n' by omega] at hp ⊢
    have m1 : ∀ i : Int, gMul (.int i) (.int (u - n')) = some (.val (.int (i * (u - n')))) := fun i => gMul_c i (by omega)
    have m2 : ∀ i : Int, gMul (.int i) (.int un') = some (.val (.int (i * un'))) := fun i => gMul_c i (by omega)
    simp only [bT_ok, bT_err, bT_none, bind_ap, pure_ap, of_ap, ofT_some, ofT_none, at0_zero, at0_succ, var_ap, vT_sh, vT_ow, vT_io, cont_ap, cT_ow, cT_io, deref_val, deref_fresh, deref_slot, stab_val, stab_fresh, set0_zero, set0_succ, setC_ap, scT_ow, scT_io, fC_ap, binT_some, binK2_ap, binK1_ap, bin_ap, testT_bl, testK_ap, test_ap, truT_some, truK_ap, truth_ap, andK_t, andK_f, and_ap, orK_f, orK_t, or_ap, notK_ap, not_ap, ifK_t, ifK_f, if_ap, ifS_ap, andVT_t, andVT_f, andVK_ap, andV_ap, orVT_f, orVT_t, orVK_ap, orV_ap, notVT_bl, notVK_ap, notV_ap, chK3_ap, chT0_some, chT_t, chT_f, chK2_ap, chK1_ap, chain_ap, nil_ap, consK2_ap, consK1_ap, cons_ap, cons2_some, stabs_nil, stabs_cons, derefs_nil, derefs_cons, tupK_ap, tup_ap, lstK_ap, lst_ap, tupT_0, tupT_1, tupT_2, tupT_3, lstT_0, lstT_1, lstT_2, lstT_3, cbT_some, cbK_ap, cb_ap, mtT2_some, mtK2_ap, mtK_ap, mt_ap, ty_lst, mutT3_some, mutT2_some, mutK2_ap, mutT0_slot, mut_ap, slT_some, slK3_ap, slK2_ap, slK1_ap, sl_ap, intT_int, partK_ap, part_ap, rg1T_int, rg1K_ap, rg1_ap, rg2T_int, rg2K2_ap, rg2K1_ap, rg2_ap, lrK_ap, listRg_ap, next_ap, seq_ap, sqT_next, sqT_ret, sqT_brk, sqT_cont, sqT_err, dropK_ap, drop_ap, retT_some, retK_ap, ret_ap, retD_val, retD_fresh, owT_ow, retD_slot, io0_n, io0_sh, io0_ow, io0_succ, noIo_ap, asg_nil, asg_cons, asT2_some, asg_valF, asg_freF, asg_freL, asg_freK, asg_freT, parT_some, parK_ap, par_ap, valT_some, valK_ap, val_ap, stT2_some, stT_some, stT0_slot, stK3_ap, stK2_ap, stK1_ap, store_ap, auT3_some, auK3_ap, auT2_some, auT1_some, auT0_slot, auK2_ap, auK1_ap, augS_ap, augT2_int, augK_ap, augT_int, aug_ap, itLT_lst, itLK_ap, itL_ap, itTT_tup, itTK_ap, itT_ap, itR1T_int, itR1K_ap, itR1_ap, itR2T_int, itR2K_ap, itR2_ap, for_ap, lcT_some, lcK_ap, lc_ap, clK_ap, call_ap, clT0_some, clT_ok, clT_err, raise_ap, try_ap, tryT_err, tryT_ok, noErr_ap, neT_ok, share_ap, shT_ow, mkG_ap, enT_ret, enT_next, enT_err, outs_nil, outs_cons, ouT_io, gEq_int, gNe_int, gAdd_int, gSub_int, gLt_int, gLe_int, gGt_int, gGe_int, gInt_int, gAbs_int, gIx_lst, gIx_tup, gLen_lst, gLen_tup, gLen_dK, gTupleOf_lst, gTupleOf_tup, gListOf_lst, gListOf_tup, set_ap, tg_ap, wipe_nil, wipe_cons, pb_nil, pb_cons, noOwn_ap, noT_none, noT_sh, putC_nil, putC_cons, ioL_nil, ioL_cons, ioLT_slot, ioLT_fresh, argOk_nil, argOk_val, argOk_fresh, argOk_slot, clT0_some, List.all_cons, List.all_nil, Bool.and_true, Bool.true_and, Bool.and_self, Bool.not_false, Bool.not_true, eq_self, if_true, if_false, and_true, true_and, and_self, List.length_cons, List.length_nil, List.mem_cons, List.not_mem_nil, or_false, false_or, true_or, decide_true, decide_false, forall_eq, List.getElem?_cons_zero, List.getElem?_cons_succ, Option.map_some, ty_lst, Nat.zero_add, not_false_eq_true, implies_true, false_implies, Nat.lt_add_one, Nat.zero_lt_succ, Nat.reduceLT, Nat.reduceAdd, Nat.reduceEqDiff, mutT_LN, mtT_LN, mutT_lst, mtT_lst, hc, hi, e', c, m1, m2, hp]
  · rw [show max 0 (u - n') = 0 by omega, Int.mul_zero, Int.zero_mul, Int.add_zero] at hp ⊢
    simp only [bT_ok, bT_err, bT_none, bind_ap, pure_ap, of_ap, ofT_some, ofT_none, at0_zero, at0_succ, var_ap, vT_sh, vT_ow, vT_io, cont_ap, cT_ow, cT_io, deref_val, deref_fresh, deref_slot, stab_val, stab_fresh, set0_zero, set0_succ, setC_ap, scT_ow, scT_io, fC_ap, binT_some, binK2_ap, binK1_ap, bin_ap, testT_bl, testK_ap, test_ap, truT_some, truK_ap, truth_ap, andK_t, andK_f, and_ap, orK_f, orK_t, or_ap, notK_ap, not_ap, ifK_t, ifK_f, if_ap, ifS_ap, andVT_t, andVT_f, andVK_ap, andV_ap, orVT_f, orVT_t, orVK_ap, orV_ap, notVT_bl, notVK_ap, notV_ap, chK3_ap, chT0_some, chT_t, chT_f, chK2_ap, chK1_ap, chain_ap, nil_ap, consK2_ap, consK1_ap, cons_ap, cons2_some, stabs_nil, stabs_cons, derefs_nil, derefs_cons, tupK_ap, tup_ap, lstK_ap, lst_ap, tupT_0, tupT_1, tupT_2, tupT_3, lstT_0, lstT_1, lstT_2, lstT_3, cbT_some, cbK_ap, cb_ap, mtT2_some, mtK2_ap, mtK_ap, mt_ap, ty_lst, mutT3_some, mutT2_some, mutK2_ap, mutT0_slot, mut_ap, slT_some, slK3_ap, slK2_ap, slK1_ap, sl_ap, intT_int, partK_ap, part_ap, rg1T_int, rg1K_ap, rg1_ap, rg2T_int, rg2K2_ap, rg2K1_ap, rg2_ap, lrK_ap, listRg_ap, next_ap, seq_ap, sqT_next, sqT_ret, sqT_brk, sqT_cont, sqT_err, dropK_ap, drop_ap, retT_some, retK_ap, ret_ap, retD_val, retD_fresh, owT_ow, retD_slot, io0_n, io0_sh, io0_ow, io0_succ, noIo_ap, asg_nil, asg_cons, asT2_some, asg_valF, asg_freF, asg_freL, asg_freK, asg_freT, parT_some, parK_ap, par_ap, valT_some, valK_ap, val_ap, stT2_some, stT_some, stT0_slot, stK3_ap, stK2_ap, stK1_ap, store_ap, auT3_some, auK3_ap, auT2_some, auT1_some, auT0_slot, auK2_ap, auK1_ap, augS_ap, augT2_int, augK_ap, augT_int, aug_ap, itLT_lst, itLK_ap, itL_ap, itTT_tup, itTK_ap, itT_ap, itR1T_int, itR1K_ap, itR1_ap, itR2T_int, itR2K_ap, itR2_ap, for_ap, lcT_some, lcK_ap, lc_ap, clK_ap, call_ap, clT0_some, clT_ok, clT_err, raise_ap, try_ap, tryT_err, tryT_ok, noErr_ap, neT_ok, share_ap, shT_ow, mkG_ap, enT_ret, enT_next, enT_err, outs_nil, outs_cons, ouT_io, gEq_int, gNe_int, gAdd_int, gSub_int, gLt_int, gLe_int, gGt_int, gGe_int, gInt_int, gAbs_int, gIx_lst, gIx_tup, gLen_lst, gLen_tup, gLen_dK, gTupleOf_lst, gTupleOf_tup, gListOf_lst, gListOf_tup, set_ap, tg_ap, wipe_nil, wipe_cons, pb_nil, pb_cons, noOwn_ap, noT_none, noT_sh, putC_nil, putC_cons, ioL_nil, ioL_cons, ioLT_slot, ioLT_fresh, argOk_nil, argOk_val, argOk_fresh, argOk_slot, clT0_some, List.all_cons, List.all_nil, Bool.and_true, Bool.true_and, Bool.and_self, Bool.not_false, Bool.not_true, eq_self, if_true, if_false, and_true, true_and, and_self, List.length_cons, List.length_nil, List.mem_cons, List.not_mem_nil, or_false, false_or, true_or, decide_true, decide_false, forall_eq, List.getElem?_cons_zero, List.getElem?_cons_succ, Option.map_some, ty_lst, Nat.zero_add, not_false_eq_true, implies_true, false_implies, Nat.lt_add_one, Nat.zero_lt_succ, Nat.reduceLT, Nat.reduceAdd, Nat.reduceEqDiff, mutT_LN, mtT_LN, mutT_lst, mtT_lst, hc, hi, e', c, hp]
end
end K15

namespace K15
open PySem L2 L3
def dueL : Int → List Fd → List Int
  | _, [] => []
  | h, f :: l => (if f.2.2 = h then [] else [f.1, f.1 + f.2.1]) ++ dueL f.2.2 l
theorem dueL_len : ∀ (l : List Fd) (h : Int), (dueL h l).length ≤ 2 * l.length
  | [], _ => by simp [dueL]
  | f :: l, h => by
    have := dueL_len l f.2.2
    unfold dueL
    rw [List.length_append, List.length_cons]
    split <;> simp <;> omega
section
variable [Tb]
theorem gNe_I (a b : Int) : gNe (.int a) (.int b) = some (.val (.bl (!decide (a = b)))) := gNe_int a b
theorem gExtend_I (acc : List Int) (a b : Int) (h : acc.length ≤ 1000) : gExtend (.lst (acc.map .int)) [.lst [.int a, .int b]] = some (.non, .lst ((acc ++ [a, b]).map .int)) := by
  unfold gExtend
  simp only
  rw [if_pos (by rw [List.length_map]; have : (2000 : Nat) ≤ sizeLine := by decide
                 simp; omega), List.map_append]
  rfl
def cBody : M Fl := (fSeq (fIfS (fTest (fBin gNe (fVar 5) (fVar 2))) (fDrop (fMut .list gExtend (fVar 1) (fCons (fLst (fCons (fVar 3) (fCons (fBin gAdd (fVar 3) (fVar 4)) fNil))) fNil))) fNext) (fPar [(2, false)] (fCons (fVar 5) fNil)))
def cEnv (fs : List Fd) (acc : List Int) (h : Int) (s3 s4 s5 s6 : Option SV) : DEnv := [some (.sh (FV fs)), some (.ow (.lst (acc.map .int))), some (.sh (.int h)), s3, s4, s5, s6]
theorem cTg (fs : List Fd) (acc : List Int) (h : Int) (f : Fd) {s3 s4 s5 s6 : Option SV} (h3 : okS s3) (h4 : okS s4) (h5 : okS s5) : t3 3 4 5 (FD f) (cEnv fs acc h s3 s4 s5 s6) = some (cEnv fs acc h (some (.sh (.int f.1))) (some (.sh (.int f.2.1))) (some (.sh (.int f.2.2))) s6) := by
  rcases h3 with rfl | ⟨d3, rfl⟩ <;> rcases h4 with rfl | ⟨d4, rfl⟩ <;> rcases h5 with rfl | ⟨d5, rfl⟩ <;> rfl
theorem c_loop (fs : List Fd) : ∀ (l : List Fd) (acc : List Int) (h : Int) (s3 s4 s5 : Option SV), acc.length + 2 * l.length ≤ 1000 → okS s3 → okS s4 → okS s5 → ∃ h' s3' s4' s5', fLoop (t3 3 4 5) cBody (l.map FD) (cEnv fs acc h s3 s4 s5 none) = some (.ok .next, cEnv fs (acc ++ dueL h l) h' s3' s4' s5' none)
  | [], acc, h, s3, s4, s5, _, _, _, _ => ⟨h, s3, s4, s5, by rw [dueL, List.append_nil]; rfl⟩
  | f :: l, acc, h, s3, s4, s5, hl, h3, h4, h5 => by
    rw [List.length_cons] at hl
    rw [List.map_cons]
    unfold fLoop
    rw [cTg fs acc h f h3 h4 h5]
    simp only
    by_cases c : f.2.2 = h
    · have e : cBody (cEnv fs acc h (some (.sh (.int f.1))) (some (.sh (.int f.2.1))) (some (.sh (.int f.2.2))) none) = some (.ok .next, cEnv fs acc f.2.2 (some (.sh (.int f.1))) (some (.sh (.int f.2.1))) (some (.sh (.int f.2.2))) none) := by
        simp only [bT_ok, bT_err, bT_none, bind_ap, pure_ap, of_ap, ofT_some, ofT_none, at0_zero, at0_succ, var_ap, vT_sh, vT_ow, vT_io, cont_ap, cT_ow, cT_io, deref_val, deref_fresh, deref_slot, stab_val, stab_fresh, set0_zero, set0_succ, setC_ap, scT_ow, scT_io, fC_ap, binT_some, binK2_ap, binK1_ap, bin_ap, testT_bl, testK_ap, test_ap, truT_some, truK_ap, truth_ap, andK_t, andK_f, and_ap, orK_f, orK_t, or_ap, notK_ap, not_ap, ifK_t, ifK_f, if_ap, ifS_ap, andVT_t, andVT_f, andVK_ap, andV_ap, orVT_f, orVT_t, orVK_ap, orV_ap, notVT_bl, notVK_ap, notV_ap, chK3_ap, chT0_some, chT_t, chT_f, chK2_ap, chK1_ap, chain_ap, nil_ap, consK2_ap, consK1_ap, cons_ap, cons2_some, stabs_nil, stabs_cons, derefs_nil, derefs_cons, tupK_ap, tup_ap, lstK_ap, lst_ap, tupT_0, tupT_1, tupT_2, tupT_3, lstT_0, lstT_1, lstT_2, lstT_3, cbT_some, cbK_ap, cb_ap, mtT2_some, mtK2_ap, mtK_ap, mt_ap, ty_lst, mutT3_some, mutT2_some, mutK2_ap, mutT0_slot, mut_ap, slT_some, slK3_ap, slK2_ap, slK1_ap, sl_ap, intT_int, partK_ap, part_ap, rg1T_int, rg1K_ap, rg1_ap, rg2T_int, rg2K2_ap, rg2K1_ap, rg2_ap, lrK_ap, listRg_ap, next_ap, seq_ap, sqT_next, sqT_ret, sqT_brk, sqT_cont, sqT_err, dropK_ap, drop_ap, retT_some, retK_ap, ret_ap, retD_val, retD_fresh, owT_ow, retD_slot, io0_n, io0_sh, io0_ow, io0_succ, noIo_ap, asg_nil, asg_cons, asT2_some, asg_valF, asg_freF, asg_freL, asg_freK, asg_freT, parT_some, parK_ap, par_ap, valT_some, valK_ap, val_ap, stT2_some, stT_some, stT0_slot, stK3_ap, stK2_ap, stK1_ap, store_ap, auT3_some, auK3_ap, auT2_some, auT1_some, auT0_slot, auK2_ap, auK1_ap, augS_ap, augT2_int, augK_ap, augT_int, aug_ap, itLT_lst, itLK_ap, itL_ap, itTT_tup, itTK_ap, itT_ap, itR1T_int, itR1K_ap, itR1_ap, itR2T_int, itR2K_ap, itR2_ap, for_ap, lcT_some, lcK_ap, lc_ap, clK_ap, call_ap, clT0_some, clT_ok, clT_err, raise_ap, try_ap, tryT_err, tryT_ok, noErr_ap, neT_ok, share_ap, shT_ow, mkG_ap, enT_ret, enT_next, enT_err, outs_nil, outs_cons, ouT_io, gEq_int, gNe_int, gAdd_int, gSub_int, gLt_int, gLe_int, gGt_int, gGe_int, gInt_int, gAbs_int, gIx_lst, gIx_tup, gLen_lst, gLen_tup, gLen_dK, gTupleOf_lst, gTupleOf_tup, gListOf_lst, gListOf_tup, set_ap, tg_ap, wipe_nil, wipe_cons, pb_nil, pb_cons, noOwn_ap, noT_none, noT_sh, putC_nil, putC_cons, ioL_nil, ioL_cons, ioLT_slot, ioLT_fresh, argOk_nil, argOk_val, argOk_fresh, argOk_slot, clT0_some, List.all_cons, List.all_nil, Bool.and_true, Bool.true_and, Bool.and_self, Bool.not_false, Bool.not_true, eq_self, if_true, if_false, and_true, true_and, and_self, List.length_cons, List.length_nil, List.mem_cons, List.not_mem_nil, or_false, false_or, true_or, decide_true, decide_false, forall_eq, List.getElem?_cons_zero, List.getElem?_cons_succ, Option.map_some, ty_lst, Nat.zero_add, not_false_eq_true, implies_true, false_implies, Nat.lt_add_one, Nat.zero_lt_succ, Nat.reduceLT, Nat.reduceAdd, Nat.reduceEqDiff, mutT_LN, mtT_LN, mutT_lst, mtT_lst, cBody, cEnv, gNe_I, c]
      rw [e]
      obtain ⟨h', a, b, d, e2⟩ := c_loop fs l acc f.2.2 (some (.sh (.int f.1))) (some (.sh (.int f.2.1))) (some (.sh (.int f.2.2))) (by omega) (.inr ⟨_, rfl⟩) (.inr ⟨_, rfl⟩) (.inr ⟨_, rfl⟩)
      refine ⟨h', a, b, d, ?_⟩
      rw [dueL, if_pos c, List.nil_append]
      exact e2
    · have e : cBody (cEnv fs acc h (some (.sh (.int f.1))) (some (.sh (.int f.2.1))) (some (.sh (.int f.2.2))) none) = some (.ok .next, cEnv fs (acc ++ [f.1, f.1 + f.2.1]) f.2.2 (some (.sh (.int f.1))) (some (.sh (.int f.2.1))) (some (.sh (.int f.2.2))) none) := by
        simp only [bT_ok, bT_err, bT_none, bind_ap, pure_ap, of_ap, ofT_some, ofT_none, at0_zero, at0_succ, var_ap, vT_sh, vT_ow, vT_io, cont_ap, cT_ow, cT_io, deref_val, deref_fresh, deref_slot, stab_val, stab_fresh, set0_zero, set0_succ, setC_ap, scT_ow, scT_io, fC_ap, binT_some, binK2_ap, binK1_ap, bin_ap, testT_bl, testK_ap, test_ap, truT_some, truK_ap, truth_ap, andK_t, andK_f, and_ap, orK_f, orK_t, or_ap, notK_ap, not_ap, ifK_t, ifK_f, if_ap, ifS_ap, andVT_t, andVT_f, andVK_ap, andV_ap, orVT_f, orVT_t, orVK_ap, orV_ap, notVT_bl, notVK_ap, notV_ap, chK3_ap, chT0_some, chT_t, chT_f, chK2_ap, chK1_ap, chain_ap, nil_ap, consK2_ap, consK1_ap, cons_ap, cons2_some, stabs_nil, stabs_cons, derefs_nil, derefs_cons, tupK_ap, tup_ap, lstK_ap, lst_ap, tupT_0, tupT_1, tupT_2, tupT_3, lstT_0, lstT_1, lstT_2, lstT_3, cbT_some, cbK_ap, cb_ap, mtT2_some, mtK2_ap, mtK_ap, mt_ap, ty_lst, mutT3_some, mutT2_some, mutK2_ap, mutT0_slot, mut_ap, slT_some, slK3_ap, slK2_ap, slK1_ap, sl_ap, intT_int, partK_ap, part_ap, rg1T_int, rg1K_ap, rg1_ap, rg2T_int, rg2K2_ap, rg2K1_ap, rg2_ap, lrK_ap, listRg_ap, next_ap, seq_ap, sqT_next, sqT_ret, sqT_brk, sqT_cont, sqT_err, dropK_ap, drop_ap, retT_some, retK_ap, ret_ap, retD_val, retD_fresh, owT_ow, retD_slot, io0_n, io0_sh, io0_ow, io0_succ, noIo_ap, asg_nil, asg_cons, asT2_some, asg_valF, asg_freF, asg_freL, asg_freK, asg_freT, parT_some, parK_ap, par_ap, valT_some, valK_ap, val_ap, stT2_some, stT_some, stT0_slot, stK3_ap, stK2_ap, stK1_ap, store_ap, auT3_some, auK3_ap, auT2_some, auT1_some, auT0_slot, auK2_ap, auK1_ap, augS_ap, augT2_int, augK_ap, augT_int, aug_ap, itLT_lst, itLK_ap, itL_ap, itTT_tup, itTK_ap, itT_ap, itR1T_int, itR1K_ap, itR1_ap, itR2T_int, itR2K_ap, itR2_ap, for_ap, lcT_some, lcK_ap, lc_ap, clK_ap, call_ap, clT0_some, clT_ok, clT_err, raise_ap, try_ap, tryT_err, tryT_ok, noErr_ap, neT_ok, share_ap, shT_ow, mkG_ap, enT_ret, enT_next, enT_err, outs_nil, outs_cons, ouT_io, gEq_int, gNe_int, gAdd_int, gSub_int, gLt_int, gLe_int, gGt_int, gGe_int, gInt_int, gAbs_int, gIx_lst, gIx_tup, gLen_lst, gLen_tup, gLen_dK, gTupleOf_lst, gTupleOf_tup, gListOf_lst, gListOf_tup, set_ap, tg_ap, wipe_nil, wipe_cons, pb_nil, pb_cons, noOwn_ap, noT_none, noT_sh, putC_nil, putC_cons, ioL_nil, ioL_cons, ioLT_slot, ioLT_fresh, argOk_nil, argOk_val, argOk_fresh, argOk_slot, clT0_some, List.all_cons, List.all_nil, Bool.and_true, Bool.true_and, Bool.and_self, Bool.not_false, Bool.not_true, eq_self, if_true, if_false, and_true, true_and, and_self, List.length_cons, List.length_nil, List.mem_cons, List.not_mem_nil, or_false, false_or, true_or, decide_true, decide_false, forall_eq, List.getElem?_cons_zero, List.getElem?_cons_succ, Option.map_some, ty_lst, Nat.zero_add, not_false_eq_true, implies_true, false_implies, Nat.lt_add_one, Nat.zero_lt_succ, Nat.reduceLT, Nat.reduceAdd, Nat.reduceEqDiff, mutT_LN, mtT_LN, mutT_lst, mtT_lst, cBody, cEnv, gNe_I, c, gExtend_I acc _ _ (show acc.length ≤ 1000 by omega)]
      rw [e]
      obtain ⟨h', a, b, d, e2⟩ := c_loop fs l (acc ++ [f.1, f.1 + f.2.1]) f.2.2 (some (.sh (.int f.1))) (some (.sh (.int f.2.1))) (some (.sh (.int f.2.2))) (by simp; omega) (.inr ⟨_, rfl⟩) (.inr ⟨_, rfl⟩) (.inr ⟨_, rfl⟩)
      refine ⟨h', a, b, d, ?_⟩
      rw [dueL, if_neg c, ← List.append_assoc]
      exact e2
theorem insS_len {acc : List Int} {k : Int} : (insS acc k).length ≤ acc.length + 1 := by
  unfold insS
  split
  · omega
  · simp
theorem foldS_len : ∀ (l : List Int) (acc : List Int), (l.foldl insS acc).length ≤ acc.length + l.length
  | [], acc => Nat.le_refl _
  | a :: l, acc => by
    have h1 := foldS_len l (insS acc a)
    have h2 := insS_len (acc := acc) (k := a)
    rw [List.foldl_cons, List.length_cons]
    omega
def c2Env (fs : List Fd) (acc : List Int) (h : Int) (s3 s4 s5 s6 : Option SV) : DEnv := [some (.sh (FV fs)), some (.sh (.lst (acc.map .int))), some (.sh (.int h)), s3, s4, s5, s6]
theorem sc_run (fs : List Fd) (a0 : List Int) (h : Int) (s3 s4 s5 : Option SV) : ∀ (l acc : List Int) (s6 : Option SV), okS s6 → acc.length + l.length ≤ 1000 → ∃ s6', okS s6' ∧ scLoop intC [6] (fTg 6) (M.pure true) (fVar 6) (l.map .int) acc (c2Env fs a0 h s3 s4 s5 s6) = some (l.foldl insS acc, c2Env fs a0 h s3 s4 s5 s6')
  | [], acc, s6, h6, _ => ⟨s6, h6, rfl⟩
  | k :: l, acc, s6, h6, hl => by
    rw [List.length_cons] at hl
    have h2 := insS_len (acc := acc) (k := k)
    obtain ⟨s6', h6', e⟩ := sc_run fs a0 h s3 s4 s5 l (insS acc k) (some (.sh (.int k))) (.inr ⟨_, rfl⟩) (by omega)
    refine ⟨s6', h6', ?_⟩
    rw [List.map_cons, List.foldl_cons]
    unfold scLoop
    have t1 : fTg 6 (.int k) (wipeD (c2Env fs a0 h s3 s4 s5 s6) [6]) = some (c2Env fs a0 h s3 s4 s5 (some (.sh (.int k)))) := rfl
    rw [t1]
    have t2 : (M.pure true : M Bool) (c2Env fs a0 h s3 s4 s5 (some (.sh (.int k)))) = some (.ok true, c2Env fs a0 h s3 s4 s5 (some (.sh (.int k)))) := rfl
    have t4 : fVar 6 (c2Env fs a0 h s3 s4 s5 (some (.sh (.int k)))) = some (.ok (.val (.int k)), c2Env fs a0 h s3 s4 s5 (some (.sh (.int k)))) := rfl
    simp only [t2, t4]
    have t5 : (deref (c2Env fs a0 h s3 s4 s5 (some (.sh (.int k)))) (.val (.int k))).bind intC = some k := rfl
    rw [t5]
    simp only
    rw [if_pos (by omega)]
    exact e
theorem changes_run {fs : List Fd} (hl : fs.length ≤ 4) : g_changes [FV fs] = some (.ok (.tup ((sortI ((dueL 0 fs).foldl insS [])).map .int)), []) := by
  have hst : startD 7 [] [FV fs] = [some (.sh (FV fs)), none, none, none, none, none, none] := rfl
  obtain ⟨h', a, b, d, e⟩ := c_loop fs fs [] 0 none none none (by simp; omega) (.inl rfl) (.inl rfl) (.inl rfl)
  have hdl := dueL_len fs 0
  obtain ⟨s6, h6, e2⟩ := sc_run fs (dueL 0 fs) h' a b d (dueL 0 fs) [] none (.inl rfl) (by simp; omega)
  have hd : d_changes = (fSeq (fPar [(1, true), (2, false)] (fCons (fLst fNil) (fCons (fC (.int 0)) fNil))) (fSeq (fFor (fItL (fVar 0)) (t3 3 4 5) cBody)
    (fShare 1 (fRet (fCB gTupleOf (fCons (fSortedSc (fSc intC (fItL (fVar 1)) [6] (fTg 6) (M.pure true) (fVar 6))) fNil)))))) := rfl
  have hi : ∀ ρ, itLT ρ (some (FV fs)) = some (.ok (fs.map FD), ρ) := fun _ => rfl
  rw [List.nil_append] at e
  have e' : fLoop (t3 3 4 5) cBody (fs.map FD) [some (.sh (FV fs)), some (.ow (.lst [])), some (.sh (.int 0)), none, none, none, none] = some (.ok .next, [some (.sh (FV fs)), some (.ow (.lst ((dueL 0 fs).map .int))), some (.sh (.int h')), a, b, d, none]) := e
  have hfl := foldS_len (dueL 0 fs) []
  have hs : fSortedSc (fSc intC (fItL (fVar 1)) [6] (fTg 6) (M.pure true) (fVar 6)) [some (.sh (FV fs)), some (.sh (.lst ((dueL 0 fs).map .int))), some (.sh (.int h')), a, b, d, none] = some (.ok (.fresh (.lst ((sortI ((dueL 0 fs).foldl insS [])).map .int))), [some (.sh (FV fs)), some (.sh (.lst ((dueL 0 fs).map .int))), some (.sh (.int h')), a, b, d, none]) := by
    unfold fSortedSc fSc
    rw [bind_ap, bind_ap]
    have t1 : fItL (fVar 1) [some (.sh (FV fs)), some (.sh (.lst ((dueL 0 fs).map .int))), some (.sh (.int h')), a, b, d, none] = some (.ok ((dueL 0 fs).map .int), c2Env fs (dueL 0 fs) h' a b d none) := rfl
    rw [t1, bT_ok]
    have t2 : ([6] : List Nat).all (noOwn (c2Env fs (dueL 0 fs) h' a b d none)) = true := rfl
    rw [if_pos t2, e2]
    simp only
    rw [bT_ok, if_pos (by simp at hfl; omega)]
    rfl
  show mkG 7 [] d_changes _ = _
  rw [mkG_ap, hst, hd]
  have ha : ∀ p : List D, asgR true (.fresh (.lst p)) = some (.ow (.lst p)) := fun _ => rfl
  simp only [bT_ok, bT_err, bT_none, bind_ap, pure_ap, of_ap, ofT_some, ofT_none, at0_zero, at0_succ, var_ap, vT_sh, vT_ow, vT_io, cont_ap, cT_ow, cT_io, deref_val, deref_fresh, deref_slot, stab_val, stab_fresh, set0_zero, set0_succ, setC_ap, scT_ow, scT_io, fC_ap, binT_some, binK2_ap, binK1_ap, bin_ap, testT_bl, testK_ap, test_ap, truT_some, truK_ap, truth_ap, andK_t, andK_f, and_ap, orK_f, orK_t, or_ap, notK_ap, not_ap, ifK_t, ifK_f, if_ap, ifS_ap, andVT_t, andVT_f, andVK_ap, andV_ap, orVT_f, orVT_t, orVK_ap, orV_ap, notVT_bl, notVK_ap, notV_ap, chK3_ap, chT0_some, chT_t, chT_f, chK2_ap, chK1_ap, chain_ap, nil_ap, consK2_ap, consK1_ap, cons_ap, cons2_some, stabs_nil, stabs_cons, derefs_nil, derefs_cons, tupK_ap, tup_ap, lstK_ap, lst_ap, tupT_0, tupT_1, tupT_2, tupT_3, lstT_0, lstT_1, lstT_2, lstT_3, cbT_some, cbK_ap, cb_ap, mtT2_some, mtK2_ap, mtK_ap, mt_ap, ty_lst, mutT3_some, mutT2_some, mutK2_ap, mutT0_slot, mut_ap, slT_some, slK3_ap, slK2_ap, slK1_ap, sl_ap, intT_int, partK_ap, part_ap, rg1T_int, rg1K_ap, rg1_ap, rg2T_int, rg2K2_ap, rg2K1_ap, rg2_ap, lrK_ap, listRg_ap, next_ap, seq_ap, sqT_next, sqT_ret, sqT_brk, sqT_cont, sqT_err, dropK_ap, drop_ap, retT_some, retK_ap, ret_ap, retD_val, retD_fresh, owT_ow, retD_slot, io0_n, io0_sh, io0_ow, io0_succ, noIo_ap, asg_nil, asg_cons, asT2_some, asg_valF, asg_freF, asg_freL, asg_freK, asg_freT, parT_some, parK_ap, par_ap, valT_some, valK_ap, val_ap, stT2_some, stT_some, stT0_slot, stK3_ap, stK2_ap, stK1_ap, store_ap, auT3_some, auK3_ap, auT2_some, auT1_some, auT0_slot, auK2_ap, auK1_ap, augS_ap, augT2_int, augK_ap, augT_int, aug_ap, itLT_lst, itLK_ap, itL_ap, itTT_tup, itTK_ap, itT_ap, itR1T_int, itR1K_ap, itR1_ap, itR2T_int, itR2K_ap, itR2_ap, for_ap, lcT_some, lcK_ap, lc_ap, clK_ap, call_ap, clT0_some, clT_ok, clT_err, raise_ap, try_ap, tryT_err, tryT_ok, noErr_ap, neT_ok, share_ap, shT_ow, mkG_ap, enT_ret, enT_next, enT_err, outs_nil, outs_cons, ouT_io, gEq_int, gNe_int, gAdd_int, gSub_int, gLt_int, gLe_int, gGt_int, gGe_int, gInt_int, gAbs_int, gIx_lst, gIx_tup, gLen_lst, gLen_tup, gLen_dK, gTupleOf_lst, gTupleOf_tup, gListOf_lst, gListOf_tup, set_ap, tg_ap, wipe_nil, wipe_cons, pb_nil, pb_cons, noOwn_ap, noT_none, noT_sh, putC_nil, putC_cons, ioL_nil, ioL_cons, ioLT_slot, ioLT_fresh, argOk_nil, argOk_val, argOk_fresh, argOk_slot, clT0_some, List.all_cons, List.all_nil, Bool.and_true, Bool.true_and, Bool.and_self, Bool.not_false, Bool.not_true, eq_self, if_true, if_false, and_true, true_and, and_self, List.length_cons, List.length_nil, List.mem_cons, List.not_mem_nil, or_false, false_or, true_or, decide_true, decide_false, forall_eq, List.getElem?_cons_zero, List.getElem?_cons_succ, Option.map_some, ty_lst, Nat.zero_add, not_false_eq_true, implies_true, false_implies, Nat.lt_add_one, Nat.zero_lt_succ, Nat.reduceLT, Nat.reduceAdd, Nat.reduceEqDiff, mutT_LN, mtT_LN, mutT_lst, mtT_lst, ha, hi, e', hs]
/-! the dice's fades -/
def fBody : M Fl := (fSeq (fPar [(2, false)] (fCons (fBin gAdd (fVar 2) (fCall [0] 2 g_law_roll (fCons (fVar 0) (fCons (fVal (fC (.int 5))) fNil)))) fNil))
    (fSeq (fPar [(4, false)] (fCons (fCall [0] 2 g_law_roll (fCons (fVar 0) (fCons (fVal (fC (.int 5))) fNil))) fNil))
    (fSeq (fDrop (fMut .list gAppend (fVar 1) (fCons (fTup (fCons (fVar 2) (fCons (fVar 4) (fCons (fBin gMul (fC (.int 10)) (fCall [0] 2 g_law_roll (fCons (fVar 0) (fCons (fVal (fC (.int 11))) fNil)))) fNil)))) fNil)))
    (fPar [(2, false)] (fCons (fBin gAdd (fVar 2) (fVar 4)) fNil)))))
def fEnv (x y z : Int) (fs : List Fd) (t : Int) (s3 s4 : Option SV) : DEnv := [some (.io (diceD x y z)), some (.ow (FV fs)), some (.sh (.int t)), s3, s4]
theorem roll_R (x y z : Int) {n : Int} (h0 : 0 < n) (hn : n < 1000) : ∃ r x' y' z', g_law_roll [diceD x y z, .int n] = some (.ok (.int r), [diceD x' y' z']) ∧ 0 ≤ r ∧ r < n := roll_ok x y z n h0 (by omega)
theorem gAppend_FV (fs : List Fd) (a b c : Int) (h : fs.length ≤ 1000) : gAppend (FV fs) [.tup [.int a, .int b, .int c]] = some (.non, FV (fs ++ [(a, b, c)])) := by
  unfold gAppend FV
  simp only
  rw [if_pos (by rw [List.length_map]; exact sz1000 h), List.map_append]
  rfl
theorem mutT_FV (g : D → List D → Option (D × D)) (fa : M (List R)) (i : Nat) (ρ : DEnv) (p : List Fd) : mutT .list g fa i ρ (some (FV p)) = bT (fa ρ) (mutK2 g i) := (rfl)
/-- ends where the next may begin -/
def endF : Int → List Fd → Int
  | t, [] => t
  | _, f :: fs => endF (f.1 + f.2.1) fs
theorem okf_app : ∀ (fs : List Fd) (t : Int) (g : Fd), Okf t fs → endF t fs ≤ g.1 → g.1 ≤ 1000 → 0 ≤ g.2.1 → g.2.1 ≤ 4 → 0 ≤ g.2.2 → g.2.2 ≤ 100 → Okf t (fs ++ [g]) ∧ endF t (fs ++ [g]) = g.1 + g.2.1
  | [], t, g, _, h1, h2, h3, h4, h5, h6 => ⟨⟨h1, h2, h3, h4, h5, h6, trivial⟩, rfl⟩
  | f :: fs, t, g, ok, h1, h2, h3, h4, h5, h6 => by
    obtain ⟨a1, a2, a3, a4, a5, a6, ok'⟩ := ok
    obtain ⟨x, y⟩ := okf_app fs (f.1 + f.2.1) g ok' h1 h2 h3 h4 h5 h6
    exact ⟨⟨a1, a2, a3, a4, a5, a6, x⟩, y⟩
theorem fades_run (x y z : Int) : ∃ x' y' z' fs, g_law_fades [diceD x y z] = some (.ok (FV fs), [diceD x' y' z']) ∧ Okf 0 fs ∧ fs.length ≤ 4 := by
  obtain ⟨n, x1, y1, z1, r1, hn⟩ := roll_N x y z (n := 5) (by decide) (by decide)
  have r1' : g_law_roll [diceD x y z, .int 5] = some (.ok (iN n), [diceD x1 y1 z1]) := r1
  obtain ⟨ρ', e, x2, y2, z2, fs, t, s3, s4, rfl, h3, h4, ok, he, hl, ht0, ht1⟩ := fLoop_inv (tg := fTg 3) (body := fBody) (fun k ρ => ∃ x y z fs t s3 s4, ρ = fEnv x y z fs t s3 s4 ∧ okS s3 ∧ okS s4 ∧ Okf 0 fs ∧ endF 0 fs ≤ t ∧ fs.length = k ∧ 0 ≤ t ∧ t ≤ 8 * k) (ds := (List.range n).map iN) (ρ := fEnv x1 y1 z1 [] 0 none none)
    ⟨x1, y1, z1, [], 0, none, none, rfl, .inl rfl, .inl rfl, trivial, Int.le_refl _, rfl, by omega, by omega⟩ (by
      rintro k ρ d hd ⟨x, y, z, fs, t, s3, s4, rfl, h3, h4, ok, he, hl, ht0, ht1⟩
      have hk : k < n := by
        have := (List.getElem?_eq_some_iff.mp hd).1
        simpa using this
      obtain ⟨a, xa, ya, za, ra, ha0, ha1⟩ := roll_R x y z (n := 5) (by decide) (by decide)
      obtain ⟨b, xb, yb, zb, rb, hb0, hb1⟩ := roll_R xa ya za (n := 5) (by decide) (by decide)
      obtain ⟨c, xc, yc, zc, rc, hc0, hc1⟩ := roll_R xb yb zb (n := 11) (by decide) (by decide)
      have m1 : gMul (.int 10) (.int c) = some (.val (.int (10 * c))) := gMul_c 10 (by omega)
      obtain ⟨okn, hen⟩ := okf_app fs 0 (t + a, b, 10 * c) ok (by show endF 0 fs ≤ t + a; omega) (by show t + a ≤ 1000; omega) hb0 (by show b ≤ 4; omega) (by show 0 ≤ 10 * c; omega) (by show 10 * c ≤ 100; omega)
      refine ⟨fEnv x y z fs t (some (.sh d)) s4, fEnv xc yc zc (fs ++ [(t + a, b, 10 * c)]) (t + a + b) (some (.sh d)) (some (.sh (.int b))), ?_, ?_, xc, yc, zc, _, _, _, _, rfl, .inr ⟨_, rfl⟩, .inr ⟨_, rfl⟩, okn, by rw [hen]; exact Int.le_refl _, by rw [List.length_append, hl]; rfl, by omega, by omega⟩
      · simp only [bT_ok, bT_err, bT_none, bind_ap, pure_ap, of_ap, ofT_some, ofT_none, at0_zero, at0_succ, var_ap, vT_sh, vT_ow, vT_io, cont_ap, cT_ow, cT_io, deref_val, deref_fresh, deref_slot, stab_val, stab_fresh, set0_zero, set0_succ, setC_ap, scT_ow, scT_io, fC_ap, binT_some, binK2_ap, binK1_ap, bin_ap, testT_bl, testK_ap, test_ap, truT_some, truK_ap, truth_ap, andK_t, andK_f, and_ap, orK_f, orK_t, or_ap, notK_ap, not_ap, ifK_t, ifK_f, if_ap, ifS_ap, andVT_t, andVT_f, andVK_ap, andV_ap, orVT_f, orVT_t, orVK_ap, orV_ap, notVT_bl, notVK_ap, notV_ap, chK3_ap, chT0_some, chT_t, chT_f, chK2_ap, chK1_ap, chain_ap, nil_ap, consK2_ap, consK1_ap, cons_ap, cons2_some, stabs_nil, stabs_cons, derefs_nil, derefs_cons, tupK_ap, tup_ap, lstK_ap, lst_ap, tupT_0, tupT_1, tupT_2, tupT_3, lstT_0, lstT_1, lstT_2, lstT_3, cbT_some, cbK_ap, cb_ap, mtT2_some, mtK2_ap, mtK_ap, mt_ap, ty_lst, mutT3_some, mutT2_some, mutK2_ap, mutT0_slot, mut_ap, slT_some, slK3_ap, slK2_ap, slK1_ap, sl_ap, intT_int, partK_ap, part_ap, rg1T_int, rg1K_ap, rg1_ap, rg2T_int, rg2K2_ap, rg2K1_ap, rg2_ap, lrK_ap, listRg_ap, next_ap, seq_ap, sqT_next, sqT_ret, sqT_brk, sqT_cont, sqT_err, dropK_ap, drop_ap, retT_some, retK_ap, ret_ap, retD_val, retD_fresh, owT_ow, retD_slot, io0_n, io0_sh, io0_ow, io0_succ, noIo_ap, asg_nil, asg_cons, asT2_some, asg_valF, asg_freF, asg_freL, asg_freK, asg_freT, parT_some, parK_ap, par_ap, valT_some, valK_ap, val_ap, stT2_some, stT_some, stT0_slot, stK3_ap, stK2_ap, stK1_ap, store_ap, auT3_some, auK3_ap, auT2_some, auT1_some, auT0_slot, auK2_ap, auK1_ap, augS_ap, augT2_int, augK_ap, augT_int, aug_ap, itLT_lst, itLK_ap, itL_ap, itTT_tup, itTK_ap, itT_ap, itR1T_int, itR1K_ap, itR1_ap, itR2T_int, itR2K_ap, itR2_ap, for_ap, lcT_some, lcK_ap, lc_ap, clK_ap, call_ap, clT0_some, clT_ok, clT_err, raise_ap, try_ap, tryT_err, tryT_ok, noErr_ap, neT_ok, share_ap, shT_ow, mkG_ap, enT_ret, enT_next, enT_err, outs_nil, outs_cons, ouT_io, gEq_int, gNe_int, gAdd_int, gSub_int, gLt_int, gLe_int, gGt_int, gGe_int, gInt_int, gAbs_int, gIx_lst, gIx_tup, gLen_lst, gLen_tup, gLen_dK, gTupleOf_lst, gTupleOf_tup, gListOf_lst, gListOf_tup, set_ap, tg_ap, wipe_nil, wipe_cons, pb_nil, pb_cons, noOwn_ap, noT_none, noT_sh, putC_nil, putC_cons, ioL_nil, ioL_cons, ioLT_slot, ioLT_fresh, argOk_nil, argOk_val, argOk_fresh, argOk_slot, clT0_some, List.all_cons, List.all_nil, Bool.and_true, Bool.true_and, Bool.and_self, Bool.not_false, Bool.not_true, eq_self, if_true, if_false, and_true, true_and, and_self, List.length_cons, List.length_nil, List.mem_cons, List.not_mem_nil, or_false, false_or, true_or, decide_true, decide_false, forall_eq, List.getElem?_cons_zero, List.getElem?_cons_succ, Option.map_some, ty_lst, Nat.zero_add, not_false_eq_true, implies_true, false_implies, Nat.lt_add_one, Nat.zero_lt_succ, Nat.reduceLT, Nat.reduceAdd, Nat.reduceEqDiff, mutT_LN, mtT_LN, mutT_lst, mtT_lst, fEnv, h3.io]
      · simp only [bT_ok, bT_err, bT_none, bind_ap, pure_ap, of_ap, ofT_some, ofT_none, at0_zero, at0_succ, var_ap, vT_sh, vT_ow, vT_io, cont_ap, cT_ow, cT_io, deref_val, deref_fresh, deref_slot, stab_val, stab_fresh, set0_zero, set0_succ, setC_ap, scT_ow, scT_io, fC_ap, binT_some, binK2_ap, binK1_ap, bin_ap, testT_bl, testK_ap, test_ap, truT_some, truK_ap, truth_ap, andK_t, andK_f, and_ap, orK_f, orK_t, or_ap, notK_ap, not_ap, ifK_t, ifK_f, if_ap, ifS_ap, andVT_t, andVT_f, andVK_ap, andV_ap, orVT_f, orVT_t, orVK_ap, orV_ap, notVT_bl, notVK_ap, notV_ap, chK3_ap, chT0_some, chT_t, chT_f, chK2_ap, chK1_ap, chain_ap, nil_ap, consK2_ap, consK1_ap, cons_ap, cons2_some, stabs_nil, stabs_cons, derefs_nil, derefs_cons, tupK_ap, tup_ap, lstK_ap, lst_ap, tupT_0, tupT_1, tupT_2, tupT_3, lstT_0, lstT_1, lstT_2, lstT_3, cbT_some, cbK_ap, cb_ap, mtT2_some, mtK2_ap, mtK_ap, mt_ap, ty_lst, mutT3_some, mutT2_some, mutK2_ap, mutT0_slot, mut_ap, slT_some, slK3_ap, slK2_ap, slK1_ap, sl_ap, intT_int, partK_ap, part_ap, rg1T_int, rg1K_ap, rg1_ap, rg2T_int, rg2K2_ap, rg2K1_ap, rg2_ap, lrK_ap, listRg_ap, next_ap, seq_ap, sqT_next, sqT_ret, sqT_brk, sqT_cont, sqT_err, dropK_ap, drop_ap, retT_some, retK_ap, ret_ap, retD_val, retD_fresh, owT_ow, retD_slot, io0_n, io0_sh, io0_ow, io0_succ, noIo_ap, asg_nil, asg_cons, asT2_some, asg_valF, asg_freF, asg_freL, asg_freK, asg_freT, parT_some, parK_ap, par_ap, valT_some, valK_ap, val_ap, stT2_some, stT_some, stT0_slot, stK3_ap, stK2_ap, stK1_ap, store_ap, auT3_some, auK3_ap, auT2_some, auT1_some, auT0_slot, auK2_ap, auK1_ap, augS_ap, augT2_int, augK_ap, augT_int, aug_ap, itLT_lst, itLK_ap, itL_ap, itTT_tup, itTK_ap, itT_ap, itR1T_int, itR1K_ap, itR1_ap, itR2T_int, itR2K_ap, itR2_ap, for_ap, lcT_some, lcK_ap, lc_ap, clK_ap, call_ap, clT0_some, clT_ok, clT_err, raise_ap, try_ap, tryT_err, tryT_ok, noErr_ap, neT_ok, share_ap, shT_ow, mkG_ap, enT_ret, enT_next, enT_err, outs_nil, outs_cons, ouT_io, gEq_int, gNe_int, gAdd_int, gSub_int, gLt_int, gLe_int, gGt_int, gGe_int, gInt_int, gAbs_int, gIx_lst, gIx_tup, gLen_lst, gLen_tup, gLen_dK, gTupleOf_lst, gTupleOf_tup, gListOf_lst, gListOf_tup, set_ap, tg_ap, wipe_nil, wipe_cons, pb_nil, pb_cons, noOwn_ap, noT_none, noT_sh, putC_nil, putC_cons, ioL_nil, ioL_cons, ioLT_slot, ioLT_fresh, argOk_nil, argOk_val, argOk_fresh, argOk_slot, clT0_some, List.all_cons, List.all_nil, Bool.and_true, Bool.true_and, Bool.and_self, Bool.not_false, Bool.not_true, eq_self, if_true, if_false, and_true, true_and, and_self, List.length_cons, List.length_nil, List.mem_cons, List.not_mem_nil, or_false, false_or, true_or, decide_true, decide_false, forall_eq, List.getElem?_cons_zero, List.getElem?_cons_succ, Option.map_some, ty_lst, Nat.zero_add, not_false_eq_true, implies_true, false_implies, Nat.lt_add_one, Nat.zero_lt_succ, Nat.reduceLT, Nat.reduceAdd, Nat.reduceEqDiff, mutT_LN, mtT_LN, mutT_lst, mtT_lst, fBody, fEnv, ra, rb, rc, h4.io, mutT_FV, m1, gAppend_FV fs _ _ _ (show fs.length ≤ 1000 by omega)])
  rw [List.length_map, List.length_range] at hl
  refine ⟨x2, y2, z2, fs, ?_, ok, by omega⟩
  have hst : startD 5 [0] [diceD x y z] = [some (.io (diceD x y z)), none, none, none, none] := rfl
  have hd : d_law_fades = (fSeq (fPar [(1, true), (2, false)] (fCons (fLst fNil) (fCons (fC (.int 0)) fNil))) (fSeq (fFor (fItR1 (fCons (fCall [0] 2 g_law_roll (fCons (fVar 0) (fCons (fVal (fC (.int 5))) fNil))) fNil)) (fTg 3) fBody) (fRet (fVar 1)))) := rfl
  have e' : fLoop (fTg 3) fBody ((List.range n).map iN) [some (.io (diceD x1 y1 z1)), some (.ow (.lst [])), some (.sh (.int 0)), none, none] = some (.ok .next, [some (.io (diceD x2 y2 z2)), some (.ow (FV fs)), some (.sh (.int t)), s3, s4]) := e
  have ha : ∀ p : List D, asgR true (.fresh (.lst p)) = some (.ow (.lst p)) := fun _ => rfl
  show mkG 5 [0] d_law_fades _ = _
  rw [mkG_ap, hst, hd]
  simp only [bT_ok, bT_err, bT_none, bind_ap, pure_ap, of_ap, ofT_some, ofT_none, at0_zero, at0_succ, var_ap, vT_sh, vT_ow, vT_io, cont_ap, cT_ow, cT_io, deref_val, deref_fresh, deref_slot, stab_val, stab_fresh, set0_zero, set0_succ, setC_ap, scT_ow, scT_io, fC_ap, binT_some, binK2_ap, binK1_ap, bin_ap, testT_bl, testK_ap, test_ap, truT_some, truK_ap, truth_ap, andK_t, andK_f, and_ap, orK_f, orK_t, or_ap, notK_ap, not_ap, ifK_t, ifK_f, if_ap, ifS_ap, andVT_t, andVT_f, andVK_ap, andV_ap, orVT_f, orVT_t, orVK_ap, orV_ap, notVT_bl, notVK_ap, notV_ap, chK3_ap, chT0_some, chT_t, chT_f, chK2_ap, chK1_ap, chain_ap, nil_ap, consK2_ap, consK1_ap, cons_ap, cons2_some, stabs_nil, stabs_cons, derefs_nil, derefs_cons, tupK_ap, tup_ap, lstK_ap, lst_ap, tupT_0, tupT_1, tupT_2, tupT_3, lstT_0, lstT_1, lstT_2, lstT_3, cbT_some, cbK_ap, cb_ap, mtT2_some, mtK2_ap, mtK_ap, mt_ap, ty_lst, mutT3_some, mutT2_some, mutK2_ap, mutT0_slot, mut_ap, slT_some, slK3_ap, slK2_ap, slK1_ap, sl_ap, intT_int, partK_ap, part_ap, rg1T_int, rg1K_ap, rg1_ap, rg2T_int, rg2K2_ap, rg2K1_ap, rg2_ap, lrK_ap, listRg_ap, next_ap, seq_ap, sqT_next, sqT_ret, sqT_brk, sqT_cont, sqT_err, dropK_ap, drop_ap, retT_some, retK_ap, ret_ap, retD_val, retD_fresh, owT_ow, retD_slot, io0_n, io0_sh, io0_ow, io0_succ, noIo_ap, asg_nil, asg_cons, asT2_some, asg_valF, asg_freF, asg_freL, asg_freK, asg_freT, parT_some, parK_ap, par_ap, valT_some, valK_ap, val_ap, stT2_some, stT_some, stT0_slot, stK3_ap, stK2_ap, stK1_ap, store_ap, auT3_some, auK3_ap, auT2_some, auT1_some, auT0_slot, auK2_ap, auK1_ap, augS_ap, augT2_int, augK_ap, augT_int, aug_ap, itLT_lst, itLK_ap, itL_ap, itTT_tup, itTK_ap, itT_ap, itR1T_int, itR1K_ap, itR1_ap, itR2T_int, itR2K_ap, itR2_ap, for_ap, lcT_some, lcK_ap, lc_ap, clK_ap, call_ap, clT0_some, clT_ok, clT_err, raise_ap, try_ap, tryT_err, tryT_ok, noErr_ap, neT_ok, share_ap, shT_ow, mkG_ap, enT_ret, enT_next, enT_err, outs_nil, outs_cons, ouT_io, gEq_int, gNe_int, gAdd_int, gSub_int, gLt_int, gLe_int, gGt_int, gGe_int, gInt_int, gAbs_int, gIx_lst, gIx_tup, gLen_lst, gLen_tup, gLen_dK, gTupleOf_lst, gTupleOf_tup, gListOf_lst, gListOf_tup, set_ap, tg_ap, wipe_nil, wipe_cons, pb_nil, pb_cons, noOwn_ap, noT_none, noT_sh, putC_nil, putC_cons, ioL_nil, ioL_cons, ioLT_slot, ioLT_fresh, argOk_nil, argOk_val, argOk_fresh, argOk_slot, clT0_some, List.all_cons, List.all_nil, Bool.and_true, Bool.true_and, Bool.and_self, Bool.not_false, Bool.not_true, eq_self, if_true, if_false, and_true, true_and, and_self, List.length_cons, List.length_nil, List.mem_cons, List.not_mem_nil, or_false, false_or, true_or, decide_true, decide_false, forall_eq, List.getElem?_cons_zero, List.getElem?_cons_succ, Option.map_some, ty_lst, Nat.zero_add, not_false_eq_true, implies_true, false_implies, Nat.lt_add_one, Nat.zero_lt_succ, Nat.reduceLT, Nat.reduceAdd, Nat.reduceEqDiff, mutT_LN, mtT_LN, mutT_lst, mtT_lst, ha, r1', itR1_iN _ (show n ≤ 1000 by omega), e']
end
end K15

namespace K15
open PySem L2 L3
section
variable [Tb]
theorem eqvAll_I : ∀ l : List Int, PyData.eqvAll (toPys (l.map .int)) (toPys (l.map .int)) = true
  | [] => by simp [toPys, PyData.eqvAll]
  | a :: l => by
    rw [List.map_cons, toPys, PyData.eqvAll, eqvAll_I l]
    have h : PyData.eqv (toPy (.int a)) (toPy (.int a)) = true := by
      have := deq_int a a
      unfold deq at this
      rw [this]; simp
    rw [h]; rfl
theorem gNe_L (l : List Int) : gNe (.lst (l.map .int)) (.lst (l.map .int)) = some (.val (.bl false)) := by
  unfold gNe
  have h1 : shp (.lst (l.map .int)) = true := (okD_ints l).shp
  rw [if_pos ⟨h1, h1⟩]
  have h2 : deq (.lst (l.map .int)) (.lst (l.map .int)) = true := by
    unfold deq
    rw [toPy, PyData.eqv]
    exact eqvAll_I l
  rw [h2]; rfl
theorem gNe_T (l : List Int) : gNe (.tup (l.map .int)) (.tup (l.map .int)) = some (.val (.bl false)) := by
  unfold gNe
  have h1 : shp (.tup (l.map .int)) = true := (okD_tup (n := 0) fun d hd => by
    obtain ⟨i, _, rfl⟩ := List.mem_map.mp hd
    exact okD_int i).shp
  rw [if_pos ⟨h1, h1⟩]
  have h2 : deq (.tup (l.map .int)) (.tup (l.map .int)) = true := by
    unfold deq
    rw [toPy, PyData.eqv]
    exact eqvAll_I l
  rw [h2]; rfl
theorem gNe_rd (a b : Int) : gNe (rd a b) (rd a b) = some (.val (.bl false)) := gNe_T [rN a b, rD a b]
abbrev N1 : Option SV := none
def lw (x y z : Int) (f1 f2 : List Fd) (u : Int) (s5 s6 s7 s8 s9 s10 s11 s12 s13 s14 s15 s16 s17 : Option SV) : DEnv := [none, some (.ow (diceD x y z)), some (.sh (FV f1)), some (.sh (FV f2)), some (.sh (.int u)), s5, s6, s7, s8, s9, s10, s11, s12, s13, s14, s15, s16, s17]
/-! the times -/
def tBody : M Fl := (fSeq (fPar [(6, false), (7, false)] (fCons (fCall [] 2 g_law_level (fCons (fVal (fVar 2)) (fCons (fVal (fVar 5)) fNil))) (fCons (fCall [] 2 g_law_level (fCons (fVal (fVar 3)) (fCons (fVal (fVar 5)) fNil))) fNil)))
    (fIfS (fOr (fTest (fBin gNe (fCall [] 2 g_level_at (fCons (fVal (fVar 2)) (fCons (fVal (fVar 5)) fNil))) (fCall [] 2 g_part (fCons (fVal (fVar 6)) (fCons (fVal (fC (.int 60))) fNil))))) (fTest (fBin gNe (fCall [] 2 g_highest (fCons (fVal (fLst (fCons (fVar 2) (fCons (fVar 3) fNil)))) (fCons (fVal (fVar 5)) fNil))) (fCall [] 2 g_part (fCons (fVal (fCB gMax (fCons (fVar 6) (fCons (fVar 7) fNil)))) (fCons (fVal (fC (.int 60))) fNil)))))) (fRet (fC (.bl false))) fNext))
theorem t_loop {f1 f2 : List Fd} (o1 : Okf 0 f1) (o2 : Okf 0 f2) (x y z u : Int) : ∃ s5 s6 s7, okS s6 ∧ fLoop (fTg 5) tBody (rgD 0 30) (lw x y z f1 f2 u none none none none none none none none none none none none none) = some (.ok .next, lw x y z f1 f2 u s5 s6 s7 none none none none none none none none none none) := by
  obtain ⟨ρ', h1, s5, s6, s7, rfl, h5, h6, h7⟩ := fLoop_inv (tg := fTg 5) (body := tBody) (fun k ρ => ∃ s5 s6 s7, ρ = lw x y z f1 f2 u s5 s6 s7 none none none none none none none none none none ∧ okS s5 ∧ okS s6 ∧ okS s7) (ds := rgD 0 30) (ρ := lw x y z f1 f2 u none none none none none none none none none none none none none) ⟨none, none, none, rfl, .inl rfl, .inl rfl, .inl rfl⟩ (by
    rintro k ρ d hd ⟨s5, s6, s7, rfl, h5, h6, h7⟩
    obtain ⟨t, rfl⟩ : ∃ t : Int, d = .int t := by
      have hm := List.mem_of_getElem? hd
      unfold rgD at hm
      obtain ⟨i, _, e⟩ := List.mem_map.mp hm
      exact ⟨_, e.symm⟩
    have q1 := law_level_run o1.smf t
    have q2 := law_level_run o2.smf t
    have q3 := level_run o1 t
    have q4 := highest_run o1 o2 t
    have q5 : ∀ a : Int, g_part [.int a, .int 60] = some (.ok (rd a 60), []) := fun a => part_run (by decide) (by decide)
    refine ⟨lw x y z f1 f2 u (some (.sh (.int t))) s6 s7 none none none none none none none none none none, lw x y z f1 f2 u (some (.sh (.int t))) (some (.sh (.int (lv t 0 f1)))) (some (.sh (.int (lv t 0 f2)))) none none none none none none none none none none, ?_, ?_, _, _, _, rfl, .inr ⟨_, rfl⟩, .inr ⟨_, rfl⟩, .inr ⟨_, rfl⟩⟩
    · simp only [bT_ok, bT_err, bT_none, bind_ap, pure_ap, of_ap, ofT_some, ofT_none, at0_zero, at0_succ, var_ap, vT_sh, vT_ow, vT_io, cont_ap, cT_ow, cT_io, deref_val, deref_fresh, deref_slot, stab_val, stab_fresh, set0_zero, set0_succ, setC_ap, scT_ow, scT_io, fC_ap, binT_some, binK2_ap, binK1_ap, bin_ap, testT_bl, testK_ap, test_ap, truT_some, truK_ap, truth_ap, andK_t, andK_f, and_ap, orK_f, orK_t, or_ap, notK_ap, not_ap, ifK_t, ifK_f, if_ap, ifS_ap, andVT_t, andVT_f, andVK_ap, andV_ap, orVT_f, orVT_t, orVK_ap, orV_ap, notVT_bl, notVK_ap, notV_ap, chK3_ap, chT0_some, chT_t, chT_f, chK2_ap, chK1_ap, chain_ap, nil_ap, consK2_ap, consK1_ap, cons_ap, cons2_some, stabs_nil, stabs_cons, derefs_nil, derefs_cons, tupK_ap, tup_ap, lstK_ap, lst_ap, tupT_0, tupT_1, tupT_2, tupT_3, lstT_0, lstT_1, lstT_2, lstT_3, cbT_some, cbK_ap, cb_ap, mtT2_some, mtK2_ap, mtK_ap, mt_ap, ty_lst, mutT3_some, mutT2_some, mutK2_ap, mutT0_slot, mut_ap, slT_some, slK3_ap, slK2_ap, slK1_ap, sl_ap, intT_int, partK_ap, part_ap, rg1T_int, rg1K_ap, rg1_ap, rg2T_int, rg2K2_ap, rg2K1_ap, rg2_ap, lrK_ap, listRg_ap, next_ap, seq_ap, sqT_next, sqT_ret, sqT_brk, sqT_cont, sqT_err, dropK_ap, drop_ap, retT_some, retK_ap, ret_ap, retD_val, retD_fresh, owT_ow, retD_slot, io0_n, io0_sh, io0_ow, io0_succ, noIo_ap, asg_nil, asg_cons, asT2_some, asg_valF, asg_freF, asg_freL, asg_freK, asg_freT, parT_some, parK_ap, par_ap, valT_some, valK_ap, val_ap, stT2_some, stT_some, stT0_slot, stK3_ap, stK2_ap, stK1_ap, store_ap, auT3_some, auK3_ap, auT2_some, auT1_some, auT0_slot, auK2_ap, auK1_ap, augS_ap, augT2_int, augK_ap, augT_int, aug_ap, itLT_lst, itLK_ap, itL_ap, itTT_tup, itTK_ap, itT_ap, itR1T_int, itR1K_ap, itR1_ap, itR2T_int, itR2K_ap, itR2_ap, for_ap, lcT_some, lcK_ap, lc_ap, clK_ap, call_ap, clT0_some, clT_ok, clT_err, raise_ap, try_ap, tryT_err, tryT_ok, noErr_ap, neT_ok, share_ap, shT_ow, mkG_ap, enT_ret, enT_next, enT_err, outs_nil, outs_cons, ouT_io, gEq_int, gNe_int, gAdd_int, gSub_int, gLt_int, gLe_int, gGt_int, gGe_int, gInt_int, gAbs_int, gIx_lst, gIx_tup, gLen_lst, gLen_tup, gLen_dK, gTupleOf_lst, gTupleOf_tup, gListOf_lst, gListOf_tup, set_ap, tg_ap, wipe_nil, wipe_cons, pb_nil, pb_cons, noOwn_ap, noT_none, noT_sh, putC_nil, putC_cons, ioL_nil, ioL_cons, ioLT_slot, ioLT_fresh, argOk_nil, argOk_val, argOk_fresh, argOk_slot, clT0_some, List.all_cons, List.all_nil, Bool.and_true, Bool.true_and, Bool.and_self, Bool.not_false, Bool.not_true, eq_self, if_true, if_false, and_true, true_and, and_self, List.length_cons, List.length_nil, List.mem_cons, List.not_mem_nil, or_false, false_or, true_or, decide_true, decide_false, forall_eq, List.getElem?_cons_zero, List.getElem?_cons_succ, Option.map_some, ty_lst, Nat.zero_add, not_false_eq_true, implies_true, false_implies, Nat.lt_add_one, Nat.zero_lt_succ, Nat.reduceLT, Nat.reduceAdd, Nat.reduceEqDiff, mutT_LN, mtT_LN, mutT_lst, mtT_lst, lw, h5.io]
    · simp only [bT_ok, bT_err, bT_none, bind_ap, pure_ap, of_ap, ofT_some, ofT_none, at0_zero, at0_succ, var_ap, vT_sh, vT_ow, vT_io, cont_ap, cT_ow, cT_io, deref_val, deref_fresh, deref_slot, stab_val, stab_fresh, set0_zero, set0_succ, setC_ap, scT_ow, scT_io, fC_ap, binT_some, binK2_ap, binK1_ap, bin_ap, testT_bl, testK_ap, test_ap, truT_some, truK_ap, truth_ap, andK_t, andK_f, and_ap, orK_f, orK_t, or_ap, notK_ap, not_ap, ifK_t, ifK_f, if_ap, ifS_ap, andVT_t, andVT_f, andVK_ap, andV_ap, orVT_f, orVT_t, orVK_ap, orV_ap, notVT_bl, notVK_ap, notV_ap, chK3_ap, chT0_some, chT_t, chT_f, chK2_ap, chK1_ap, chain_ap, nil_ap, consK2_ap, consK1_ap, cons_ap, cons2_some, stabs_nil, stabs_cons, derefs_nil, derefs_cons, tupK_ap, tup_ap, lstK_ap, lst_ap, tupT_0, tupT_1, tupT_2, tupT_3, lstT_0, lstT_1, lstT_2, lstT_3, cbT_some, cbK_ap, cb_ap, mtT2_some, mtK2_ap, mtK_ap, mt_ap, ty_lst, mutT3_some, mutT2_some, mutK2_ap, mutT0_slot, mut_ap, slT_some, slK3_ap, slK2_ap, slK1_ap, sl_ap, intT_int, partK_ap, part_ap, rg1T_int, rg1K_ap, rg1_ap, rg2T_int, rg2K2_ap, rg2K1_ap, rg2_ap, lrK_ap, listRg_ap, next_ap, seq_ap, sqT_next, sqT_ret, sqT_brk, sqT_cont, sqT_err, dropK_ap, drop_ap, retT_some, retK_ap, ret_ap, retD_val, retD_fresh, owT_ow, retD_slot, io0_n, io0_sh, io0_ow, io0_succ, noIo_ap, asg_nil, asg_cons, asT2_some, asg_valF, asg_freF, asg_freL, asg_freK, asg_freT, parT_some, parK_ap, par_ap, valT_some, valK_ap, val_ap, stT2_some, stT_some, stT0_slot, stK3_ap, stK2_ap, stK1_ap, store_ap, auT3_some, auK3_ap, auT2_some, auT1_some, auT0_slot, auK2_ap, auK1_ap, augS_ap, augT2_int, augK_ap, augT_int, aug_ap, itLT_lst, itLK_ap, itL_ap, itTT_tup, itTK_ap, itT_ap, itR1T_int, itR1K_ap, itR1_ap, itR2T_int, itR2K_ap, itR2_ap, for_ap, lcT_some, lcK_ap, lc_ap, clK_ap, call_ap, clT0_some, clT_ok, clT_err, raise_ap, try_ap, tryT_err, tryT_ok, noErr_ap, neT_ok, share_ap, shT_ow, mkG_ap, enT_ret, enT_next, enT_err, outs_nil, outs_cons, ouT_io, gEq_int, gNe_int, gAdd_int, gSub_int, gLt_int, gLe_int, gGt_int, gGe_int, gInt_int, gAbs_int, gIx_lst, gIx_tup, gLen_lst, gLen_tup, gLen_dK, gTupleOf_lst, gTupleOf_tup, gListOf_lst, gListOf_tup, set_ap, tg_ap, wipe_nil, wipe_cons, pb_nil, pb_cons, noOwn_ap, noT_none, noT_sh, putC_nil, putC_cons, ioL_nil, ioL_cons, ioLT_slot, ioLT_fresh, argOk_nil, argOk_val, argOk_fresh, argOk_slot, clT0_some, List.all_cons, List.all_nil, Bool.and_true, Bool.true_and, Bool.and_self, Bool.not_false, Bool.not_true, eq_self, if_true, if_false, and_true, true_and, and_self, List.length_cons, List.length_nil, List.mem_cons, List.not_mem_nil, or_false, false_or, true_or, decide_true, decide_false, forall_eq, List.getElem?_cons_zero, List.getElem?_cons_succ, Option.map_some, ty_lst, Nat.zero_add, not_false_eq_true, implies_true, false_implies, Nat.lt_add_one, Nat.zero_lt_succ, Nat.reduceLT, Nat.reduceAdd, Nat.reduceEqDiff, mutT_LN, mtT_LN, mutT_lst, mtT_lst, tBody, lw, h6.io, h7.io, q1, q2, q3, q4, q5, gNe_rd, gMax_I])
  exact ⟨s5, s6, s7, h6, h1⟩
/-! the whole -/
def wBody : M Fl := (fSeq (fPar [(13, false)] (fCons (fCB gMin (fCons (fVar 4) (fCons (fVar 11) fNil))) fNil))
    (fSeq (fPar [(8, false)] (fCons (fBin gAdd (fVar 8) (fBin gMul (fBin gMul (fC (.int 120)) (fVar 9)) (fCB gMax (fCons (fC (.int 0)) (fCons (fBin gSub (fVar 13) (fVar 10)) fNil))))) fNil))
    (fSeq (fPar [(10, false), (14, false)] (fCons (fCB gMax (fCons (fVar 10) (fCons (fVar 13) fNil))) (fCons (fCB gMin (fCons (fVar 4) (fCons (fBin gAdd (fVar 11) (fVar 12)) fNil))) fNil)))
    (fIfS (fTest (fBin gLt (fVar 11) (fVar 4))) (fSeq (fPar [(15, false)] (fCons (fIf (fTest (fBin gLt (fVar 14) (fBin gAdd (fVar 11) (fVar 12)))) (fCall [] 2 g_law_level (fCons (fVal (fVar 2)) (fCons (fVal (fVar 14)) fNil))) (fBin gMul (fC (.int 60)) (fVar 6))) fNil))
    (fSeq (fPar [(8, false)] (fCons (fBin gAdd (fVar 8) (fBin gMul (fBin gAdd (fBin gMul (fC (.int 60)) (fVar 9)) (fVar 15)) (fBin gSub (fVar 14) (fVar 11)))) fNil))
    (fPar [(9, false), (10, false)] (fCons (fVar 6) (fCons (fVar 14) fNil))))) fNext))))
def Sh (v : Int) : Option SV := some (.sh (.int v))
theorem wTg (x y z : Int) (f1 f2 : List Fd) (u : Int) (f : Fd) {s5 s6 s7 s8 s9 s10 s11 s12 s13 s14 s15 s16 s17 : Option SV} (h6 : okS s6) (h11 : okS s11) (h12 : okS s12) : t3 11 12 6 (FD f) (lw x y z f1 f2 u s5 s6 s7 s8 s9 s10 s11 s12 s13 s14 s15 s16 s17) = some (lw x y z f1 f2 u s5 (Sh f.2.2) s7 s8 s9 s10 (Sh f.1) (Sh f.2.1) s13 s14 s15 s16 s17) := by
  rcases h6 with rfl | ⟨d3, rfl⟩ <;> rcases h11 with rfl | ⟨d4, rfl⟩ <;> rcases h12 with rfl | ⟨d5, rfl⟩ <;> rfl
theorem wBody_run (x y z : Int) {f1 : List Fd} (f2 : List Fd) (o1 : Okf 0 f1) {u : Int} (hu : 0 ≤ u ∧ u ≤ 1000) (w h n : Int) (hh : 0 ≤ h ∧ h ≤ 100) (hn : 0 ≤ n ∧ n ≤ 1000) {f : Fd} (hf : Smf f) (hf0 : 0 ≤ f.1 ∧ f.1 ≤ 1000) (s5 s7 : Option SV) {s13 s14 s15 s16 s17 : Option SV} (h13 : okS s13) (h14 : okS s14) (h15 : okS s15) :
    ∃ s13' s14' s15', okS s13' ∧ okS s14' ∧ okS s15' ∧ wBody (lw x y z f1 f2 u s5 (Sh f.2.2) s7 (Sh w) (Sh h) (Sh n) (Sh f.1) (Sh f.2.1) s13 s14 s15 s16 s17) = some (.ok .next, lw x y z f1 f2 u s5 (Sh f.2.2) s7 (Sh (wS u f1 (w, h, n) f).1) (Sh (wS u f1 (w, h, n) f).2.1) (Sh (wS u f1 (w, h, n) f).2.2) (Sh f.1) (Sh f.2.1) s13' s14' s15' s16 s17) := by
  obtain ⟨a1, a2, a3, a4⟩ := hf
  have m1 : ∀ i : Int, gMul (.int i) (.int h) = some (.val (.int (i * h))) := fun i => gMul_c i (by omega)
  have m2 : ∀ i : Int, gMul (.int i) (.int (max 0 (min u f.1 - n))) = some (.val (.int (i * max 0 (min u f.1 - n)))) := fun i => gMul_c i (by omega)
  have m3 : ∀ i : Int, gMul (.int i) (.int (min u (f.1 + f.2.1) - f.1)) = some (.val (.int (i * (min u (f.1 + f.2.1) - f.1)))) := fun i => gMul_c i (by omega)
  have m4 : ∀ i : Int, gMul (.int i) (.int f.2.2) = some (.val (.int (i * f.2.2))) := fun i => gMul_c i (by omega)
  have q1 := law_level_run o1.smf (min u (f.1 + f.2.1))
  by_cases c : f.1 < u
  · by_cases c2 : min u (f.1 + f.2.1) < f.1 + f.2.1
    · refine ⟨Sh (min u f.1), Sh (min u (f.1 + f.2.1)), Sh (lv (min u (f.1 + f.2.1)) 0 f1), .inr ⟨_, rfl⟩, .inr ⟨_, rfl⟩, .inr ⟨_, rfl⟩, ?_⟩
      simp only [bT_ok, bT_err, bT_none, bind_ap, pure_ap, of_ap, ofT_some, ofT_none, at0_zero, at0_succ, var_ap, vT_sh, vT_ow, vT_io, cont_ap, cT_ow, cT_io, deref_val, deref_fresh, deref_slot, stab_val, stab_fresh, set0_zero, set0_succ, setC_ap, scT_ow, scT_io, fC_ap, binT_some, binK2_ap, binK1_ap, bin_ap, testT_bl, testK_ap, test_ap, truT_some, truK_ap, truth_ap, andK_t, andK_f, and_ap, orK_f, orK_t, or_ap, notK_ap, not_ap, ifK_t, ifK_f, if_ap, ifS_ap, andVT_t, andVT_f, andVK_ap, andV_ap, orVT_f, orVT_t, orVK_ap, orV_ap, notVT_bl, notVK_ap, notV_ap, chK3_ap, chT0_some, chT_t, chT_f, chK2_ap, chK1_ap, chain_ap, nil_ap, consK2_ap, consK1_ap, cons_ap, cons2_some, stabs_nil, stabs_cons, derefs_nil, derefs_cons, tupK_ap, tup_ap, lstK_ap, lst_ap, tupT_0, tupT_1, tupT_2, tupT_3, lstT_0, lstT_1, lstT_2, lstT_3, cbT_some, cbK_ap, cb_ap, mtT2_some, mtK2_ap, mtK_ap, mt_ap, ty_lst, mutT3_some, mutT2_some, mutK2_ap, mutT0_slot, mut_ap, slT_some, slK3_ap, slK2_ap, slK1_ap, sl_ap, intT_int, partK_ap, part_ap, rg1T_int, rg1K_ap, rg1_ap, rg2T_int, rg2K2_ap, rg2K1_ap, rg2_ap, lrK_ap, listRg_ap, next_ap, seq_ap, sqT_next, sqT_ret, sqT_brk, sqT_cont, sqT_err, dropK_ap, drop_ap, retT_some, retK_ap, ret_ap, retD_val, retD_fresh, owT_ow, retD_slot, io0_n, io0_sh, io0_ow, io0_succ, noIo_ap, asg_nil, asg_cons, asT2_some, asg_valF, asg_freF, asg_freL, asg_freK, asg_freT, parT_some, parK_ap, par_ap, valT_some, valK_ap, val_ap, stT2_some, stT_some, stT0_slot, stK3_ap, stK2_ap, stK1_ap, store_ap, auT3_some, auK3_ap, auT2_some, auT1_some, auT0_slot, auK2_ap, auK1_ap, augS_ap, augT2_int, augK_ap, augT_int, aug_ap, itLT_lst, itLK_ap, itL_ap, itTT_tup, itTK_ap, itT_ap, itR1T_int, itR1K_ap, itR1_ap, itR2T_int, itR2K_ap, itR2_ap, for_ap, lcT_some, lcK_ap, lc_ap, clK_ap, call_ap, clT0_some, clT_ok, clT_err, raise_ap, try_ap, tryT_err, tryT_ok, noErr_ap, neT_ok, share_ap, shT_ow, mkG_ap, enT_ret, enT_next, enT_err, outs_nil, outs_cons, ouT_io, gEq_int, gNe_int, gAdd_int, gSub_int, gLt_int, gLe_int, gGt_int, gGe_int, gInt_int, gAbs_int, gIx_lst, gIx_tup, gLen_lst, gLen_tup, gLen_dK, gTupleOf_lst, gTupleOf_tup, gListOf_lst, gListOf_tup, set_ap, tg_ap, wipe_nil, wipe_cons, pb_nil, pb_cons, noOwn_ap, noT_none, noT_sh, putC_nil, putC_cons, ioL_nil, ioL_cons, ioLT_slot, ioLT_fresh, argOk_nil, argOk_val, argOk_fresh, argOk_slot, clT0_some, List.all_cons, List.all_nil, Bool.and_true, Bool.true_and, Bool.and_self, Bool.not_false, Bool.not_true, eq_self, if_true, if_false, and_true, true_and, and_self, List.length_cons, List.length_nil, List.mem_cons, List.not_mem_nil, or_false, false_or, true_or, decide_true, decide_false, forall_eq, List.getElem?_cons_zero, List.getElem?_cons_succ, Option.map_some, ty_lst, Nat.zero_add, not_false_eq_true, implies_true, false_implies, Nat.lt_add_one, Nat.zero_lt_succ, Nat.reduceLT, Nat.reduceAdd, Nat.reduceEqDiff, mutT_LN, mtT_LN, mutT_lst, mtT_lst, wBody, lw, Sh, h13.io, h14.io, h15.io, gMin_I, gMax_I, m1, m2, m3, m4, c, c2, q1, wS]
    · refine ⟨Sh (min u f.1), Sh (min u (f.1 + f.2.1)), Sh (60 * f.2.2), .inr ⟨_, rfl⟩, .inr ⟨_, rfl⟩, .inr ⟨_, rfl⟩, ?_⟩
      simp only [bT_ok, bT_err, bT_none, bind_ap, pure_ap, of_ap, ofT_some, ofT_none, at0_zero, at0_succ, var_ap, vT_sh, vT_ow, vT_io, cont_ap, cT_ow, cT_io, deref_val, deref_fresh, deref_slot, stab_val, stab_fresh, set0_zero, set0_succ, setC_ap, scT_ow, scT_io, fC_ap, binT_some, binK2_ap, binK1_ap, bin_ap, testT_bl, testK_ap, test_ap, truT_some, truK_ap, truth_ap, andK_t, andK_f, and_ap, orK_f, orK_t, or_ap, notK_ap, not_ap, ifK_t, ifK_f, if_ap, ifS_ap, andVT_t, andVT_f, andVK_ap, andV_ap, orVT_f, orVT_t, orVK_ap, orV_ap, notVT_bl, notVK_ap, notV_ap, chK3_ap, chT0_some, chT_t, chT_f, chK2_ap, chK1_ap, chain_ap, nil_ap, consK2_ap, consK1_ap, cons_ap, cons2_some, stabs_nil, stabs_cons, derefs_nil, derefs_cons, tupK_ap, tup_ap, lstK_ap, lst_ap, tupT_0, tupT_1, tupT_2, tupT_3, lstT_0, lstT_1, lstT_2, lstT_3, cbT_some, cbK_ap, cb_ap, mtT2_some, mtK2_ap, mtK_ap, mt_ap, ty_lst, mutT3_some, mutT2_some, mutK2_ap, mutT0_slot, mut_ap, slT_some, slK3_ap, slK2_ap, slK1_ap, sl_ap, intT_int, partK_ap, part_ap, rg1T_int, rg1K_ap, rg1_ap, rg2T_int, rg2K2_ap, rg2K1_ap, rg2_ap, lrK_ap, listRg_ap, next_ap, seq_ap, sqT_next, sqT_ret, sqT_brk, sqT_cont, sqT_err, dropK_ap, drop_ap, retT_some, retK_ap, ret_ap, retD_val, retD_fresh, owT_ow, retD_slot, io0_n, io0_sh, io0_ow, io0_succ, noIo_ap, asg_nil, asg_cons, asT2_some, asg_valF, asg_freF, asg_freL, asg_freK, asg_freT, parT_some, parK_ap, par_ap, valT_some, valK_ap, val_ap, stT2_some, stT_some, stT0_slot, stK3_ap, stK2_ap, stK1_ap, store_ap, auT3_some, auK3_ap, auT2_some, auT1_some, auT0_slot, auK2_ap, auK1_ap, augS_ap, augT2_int, augK_ap, augT_int, aug_ap, itLT_lst, itLK_ap, itL_ap, itTT_tup, itTK_ap, itT_ap, itR1T_int, itR1K_ap, itR1_ap, itR2T_int, itR2K_ap, itR2_ap, for_ap, lcT_some, lcK_ap, lc_ap, clK_ap, call_ap, clT0_some, clT_ok, clT_err, raise_ap, try_ap, tryT_err, tryT_ok, noErr_ap, neT_ok, share_ap, shT_ow, mkG_ap, enT_ret, enT_next, enT_err, outs_nil, outs_cons, ouT_io, gEq_int, gNe_int, gAdd_int, gSub_int, gLt_int, gLe_int, gGt_int, gGe_int, gInt_int, gAbs_int, gIx_lst, gIx_tup, gLen_lst, gLen_tup, gLen_dK, gTupleOf_lst, gTupleOf_tup, gListOf_lst, gListOf_tup, set_ap, tg_ap, wipe_nil, wipe_cons, pb_nil, pb_cons, noOwn_ap, noT_none, noT_sh, putC_nil, putC_cons, ioL_nil, ioL_cons, ioLT_slot, ioLT_fresh, argOk_nil, argOk_val, argOk_fresh, argOk_slot, clT0_some, List.all_cons, List.all_nil, Bool.and_true, Bool.true_and, Bool.and_self, Bool.not_false, Bool.not_true, eq_self, if_true, if_false, and_true, true_and, and_self, List.length_cons, List.length_nil, List.mem_cons, List.not_mem_nil, or_false, false_or, true_or, decide_true, decide_false, forall_eq, List.getElem?_cons_zero, List.getElem?_cons_succ, Option.map_some, ty_lst, Nat.zero_add, not_false_eq_true, implies_true, false_implies, Nat.lt_add_one, Nat.zero_lt_succ, Nat.reduceLT, Nat.reduceAdd, Nat.reduceEqDiff, mutT_LN, mtT_LN, mutT_lst, mtT_lst, wBody, lw, Sh, h13.io, h14.io, h15.io, gMin_I, gMax_I, m1, m2, m3, m4, c, c2, q1, wS]
  · refine ⟨Sh (min u f.1), Sh (min u (f.1 + f.2.1)), s15, .inr ⟨_, rfl⟩, .inr ⟨_, rfl⟩, h15, ?_⟩
    simp only [bT_ok, bT_err, bT_none, bind_ap, pure_ap, of_ap, ofT_some, ofT_none, at0_zero, at0_succ, var_ap, vT_sh, vT_ow, vT_io, cont_ap, cT_ow, cT_io, deref_val, deref_fresh, deref_slot, stab_val, stab_fresh, set0_zero, set0_succ, setC_ap, scT_ow, scT_io, fC_ap, binT_some, binK2_ap, binK1_ap, bin_ap, testT_bl, testK_ap, test_ap, truT_some, truK_ap, truth_ap, andK_t, andK_f, and_ap, orK_f, orK_t, or_ap, notK_ap, not_ap, ifK_t, ifK_f, if_ap, ifS_ap, andVT_t, andVT_f, andVK_ap, andV_ap, orVT_f, orVT_t, orVK_ap, orV_ap, notVT_bl, notVK_ap, notV_ap, chK3_ap, chT0_some, chT_t, chT_f, chK2_ap, chK1_ap, chain_ap, nil_ap, consK2_ap, consK1_ap, cons_ap, cons2_some, stabs_nil, stabs_cons, derefs_nil, derefs_cons, tupK_ap, tup_ap, lstK_ap, lst_ap, tupT_0, tupT_1, tupT_2, tupT_3, lstT_0, lstT_1, lstT_2, lstT_3, cbT_some, cbK_ap, cb_ap, mtT2_some, mtK2_ap, mtK_ap, mt_ap, ty_lst, mutT3_some, mutT2_some, mutK2_ap, mutT0_slot, mut_ap, slT_some, slK3_ap, slK2_ap, slK1_ap, sl_ap, intT_int, partK_ap, part_ap, rg1T_int, rg1K_ap, rg1_ap, rg2T_int, rg2K2_ap, rg2K1_ap, rg2_ap, lrK_ap, listRg_ap, next_ap, seq_ap, sqT_next, sqT_ret, sqT_brk, sqT_cont, sqT_err, dropK_ap, drop_ap, retT_some, retK_ap, ret_ap, retD_val, retD_fresh, owT_ow, retD_slot, io0_n, io0_sh, io0_ow, io0_succ, noIo_ap, asg_nil, asg_cons, asT2_some, asg_valF, asg_freF, asg_freL, asg_freK, asg_freT, parT_some, parK_ap, par_ap, valT_some, valK_ap, val_ap, stT2_some, stT_some, stT0_slot, stK3_ap, stK2_ap, stK1_ap, store_ap, auT3_some, auK3_ap, auT2_some, auT1_some, auT0_slot, auK2_ap, auK1_ap, augS_ap, augT2_int, augK_ap, augT_int, aug_ap, itLT_lst, itLK_ap, itL_ap, itTT_tup, itTK_ap, itT_ap, itR1T_int, itR1K_ap, itR1_ap, itR2T_int, itR2K_ap, itR2_ap, for_ap, lcT_some, lcK_ap, lc_ap, clK_ap, call_ap, clT0_some, clT_ok, clT_err, raise_ap, try_ap, tryT_err, tryT_ok, noErr_ap, neT_ok, share_ap, shT_ow, mkG_ap, enT_ret, enT_next, enT_err, outs_nil, outs_cons, ouT_io, gEq_int, gNe_int, gAdd_int, gSub_int, gLt_int, gLe_int, gGt_int, gGe_int, gInt_int, gAbs_int, gIx_lst, gIx_tup, gLen_lst, gLen_tup, gLen_dK, gTupleOf_lst, gTupleOf_tup, gListOf_lst, gListOf_tup, set_ap, tg_ap, wipe_nil, wipe_cons, pb_nil, pb_cons, noOwn_ap, noT_none, noT_sh, putC_nil, putC_cons, ioL_nil, ioL_cons, ioLT_slot, ioLT_fresh, argOk_nil, argOk_val, argOk_fresh, argOk_slot, clT0_some, List.all_cons, List.all_nil, Bool.and_true, Bool.true_and, Bool.and_self, Bool.not_false, Bool.not_true, eq_self, if_true, if_false, and_true, true_and, and_self, List.length_cons, List.length_nil, List.mem_cons, List.not_mem_nil, or_false, false_or, true_or, decide_true, decide_false, forall_eq, List.getElem?_cons_zero, List.getElem?_cons_succ, Option.map_some, ty_lst, Nat.zero_add, not_false_eq_true, implies_true, false_implies, Nat.lt_add_one, Nat.zero_lt_succ, Nat.reduceLT, Nat.reduceAdd, Nat.reduceEqDiff, mutT_LN, mtT_LN, mutT_lst, mtT_lst, wBody, lw, Sh, h13.io, h14.io, h15.io, gMin_I, gMax_I, m1, m2, m3, m4, c, wS]
theorem w_loop (x y z : Int) {f1 : List Fd} (f2 : List Fd) (o1 : Okf 0 f1) {u : Int} (hu : 0 ≤ u ∧ u ≤ 1000) : ∀ (l : List Fd) (w h n : Int) (s5 s6 s7 s11 s12 s13 s14 s15 s16 s17 : Option SV), (∀ f ∈ l, f ∈ f1) → 0 ≤ h ∧ h ≤ 100 → 0 ≤ n ∧ n ≤ u → okS s6 → okS s11 → okS s12 → okS s13 → okS s14 → okS s15 →
    ∃ s6' s11' s12' s13' s14' s15', okS s6' ∧ okS s11' ∧ okS s12' ∧ 0 ≤ (l.foldl (wS u f1) (w, h, n)).2.1 ∧ (l.foldl (wS u f1) (w, h, n)).2.1 ≤ 100 ∧ 0 ≤ (l.foldl (wS u f1) (w, h, n)).2.2 ∧ (l.foldl (wS u f1) (w, h, n)).2.2 ≤ u ∧
      fLoop (t3 11 12 6) wBody (l.map FD) (lw x y z f1 f2 u s5 s6 s7 (Sh w) (Sh h) (Sh n) s11 s12 s13 s14 s15 s16 s17) = some (.ok .next, lw x y z f1 f2 u s5 s6' s7 (Sh (l.foldl (wS u f1) (w, h, n)).1) (Sh (l.foldl (wS u f1) (w, h, n)).2.1) (Sh (l.foldl (wS u f1) (w, h, n)).2.2) s11' s12' s13' s14' s15' s16 s17)
  | [], w, h, n, s5, s6, s7, s11, s12, s13, s14, s15, s16, s17, _, hh, hn, h6, h11, h12, h13, h14, h15 => ⟨s6, s11, s12, s13, s14, s15, h6, h11, h12, hh.1, hh.2, hn.1, hn.2, rfl⟩
  | f :: l, w, h, n, s5, s6, s7, s11, s12, s13, s14, s15, s16, s17, hm, hh, hn, h6, h11, h12, h13, h14, h15 => by
    have hfm := hm f List.mem_cons_self
    obtain ⟨i, hi⟩ := List.mem_iff_getElem?.mp hfm
    obtain ⟨b1, b2, b3, b4, b5, b6⟩ := Okf.at (t := 0) o1 hi
    obtain ⟨s13', s14', s15', k13, k14, k15, e⟩ := wBody_run x y z f2 o1 hu w h n hh (by omega) (f := f) ⟨b3, b4, b5, b6⟩ ⟨b1, b2⟩ s5 s7 (s16 := s16) (s17 := s17) h13 h14 h15
    have inv : 0 ≤ (wS u f1 (w, h, n) f).2.1 ∧ (wS u f1 (w, h, n) f).2.1 ≤ 100 ∧ 0 ≤ (wS u f1 (w, h, n) f).2.2 ∧ (wS u f1 (w, h, n) f).2.2 ≤ u := by
      unfold wS
      split
      · exact ⟨b5, b6, by show 0 ≤ min u (f.1 + f.2.1); omega, by show min u (f.1 + f.2.1) ≤ u; omega⟩
      · exact ⟨hh.1, hh.2, by show 0 ≤ max n (min u f.1); omega, by show max n (min u f.1) ≤ u; omega⟩
    obtain ⟨a, b, c, d, e', g, p1, p2, p3, q⟩ := w_loop x y z f2 o1 hu l (wS u f1 (w, h, n) f).1 (wS u f1 (w, h, n) f).2.1 (wS u f1 (w, h, n) f).2.2 s5 (Sh f.2.2) s7 (Sh f.1) (Sh f.2.1) s13' s14' s15' s16 s17 (fun g hg => hm g (List.mem_cons_of_mem _ hg)) ⟨inv.1, inv.2.1⟩ ⟨inv.2.2.1, inv.2.2.2⟩ (.inr ⟨_, rfl⟩) (.inr ⟨_, rfl⟩) (.inr ⟨_, rfl⟩) k13 k14 k15
    refine ⟨a, b, c, d, e', g, p1, p2, p3, ?_⟩
    rw [List.map_cons, List.foldl_cons]
    refine ⟨q.1, q.2.1, q.2.2.1, q.2.2.2.1, ?_⟩
    unfold fLoop
    rw [wTg x y z f1 f2 u f h6 h11 h12]
    simp only [e]
    exact q.2.2.2.2
end
end K15

namespace K15
open PySem L2 L3
section
variable [Tb]
def LI (l : List Int) : D := .lst (l.map .int)
theorem gAdd_LI (l : List Int) (a b : Int) (h : l.length ≤ 1000) : gAdd (LI l) (.lst [.int a, .int b]) = some (.fresh (LI (l ++ [a, b]))) := by
  unfold LI
  show (if (l.map D.int).length + [D.int a, D.int b].length ≤ sizeLine then some (R.fresh (.lst (l.map .int ++ [.int a, .int b]))) else none) = _
  rw [if_pos (by rw [List.length_map]; have : (2000 : Nat) ≤ sizeLine := by decide
                 simp; omega), List.map_append]
  rfl
def dBody : M Fl := (fSeq (fIfS (fTest (fBin gNe (fVar 6) (fVar 9))) (fPar [(16, false)] (fCons (fBin gAdd (fVar 16) (fLst (fCons (fVar 11) (fCons (fBin gAdd (fVar 11) (fVar 12)) fNil)))) fNil)) fNext)
    (fPar [(9, false)] (fCons (fVar 6) fNil)))
theorem asgLI (l : List Int) : asgR false (.fresh (LI l)) = some (.sh (LI l)) := (rfl)
theorem d_loop (x y z : Int) (f1 f2 : List Fd) (u : Int) (s5 s7 s8 s10 s13 s14 s15 s17 : Option SV) : ∀ (l : List Fd) (acc : List Int) (h : Int) (s6 s11 s12 : Option SV), acc.length + 2 * l.length ≤ 1000 → okS s6 → okS s11 → okS s12 →
    ∃ h' s6' s11' s12', fLoop (t3 11 12 6) dBody (l.map FD) (lw x y z f1 f2 u s5 s6 s7 s8 (Sh h) s10 s11 s12 s13 s14 s15 (some (.sh (LI acc))) s17) = some (.ok .next, lw x y z f1 f2 u s5 s6' s7 s8 (Sh h') s10 s11' s12' s13 s14 s15 (some (.sh (LI (acc ++ dueL h l)))) s17)
  | [], acc, h, s6, s11, s12, _, _, _, _ => ⟨h, s6, s11, s12, by rw [dueL, List.append_nil]; rfl⟩
  | f :: l, acc, h, s6, s11, s12, hl, h6, h11, h12 => by
    rw [List.length_cons] at hl
    rw [List.map_cons]
    unfold fLoop
    rw [wTg x y z f1 f2 u f h6 h11 h12]
    simp only
    by_cases c : f.2.2 = h
    · have e : dBody (lw x y z f1 f2 u s5 (Sh f.2.2) s7 s8 (Sh h) s10 (Sh f.1) (Sh f.2.1) s13 s14 s15 (some (.sh (LI acc))) s17) = some (.ok .next, lw x y z f1 f2 u s5 (Sh f.2.2) s7 s8 (Sh f.2.2) s10 (Sh f.1) (Sh f.2.1) s13 s14 s15 (some (.sh (LI acc))) s17) := by
        simp only [bT_ok, bT_err, bT_none, bind_ap, pure_ap, of_ap, ofT_some, ofT_none, at0_zero, at0_succ, var_ap, vT_sh, vT_ow, vT_io, cont_ap, cT_ow, cT_io, deref_val, deref_fresh, deref_slot, stab_val, stab_fresh, set0_zero, set0_succ, setC_ap, scT_ow, scT_io, fC_ap, binT_some, binK2_ap, binK1_ap, bin_ap, testT_bl, testK_ap, test_ap, truT_some, truK_ap, truth_ap, andK_t, andK_f, and_ap, orK_f, orK_t, or_ap, notK_ap, not_ap, ifK_t, ifK_f, if_ap, ifS_ap, andVT_t, andVT_f, andVK_ap, andV_ap, orVT_f, orVT_t, orVK_ap, orV_ap, notVT_bl, notVK_ap, notV_ap, chK3_ap, chT0_some, chT_t, chT_f, chK2_ap, chK1_ap, chain_ap, nil_ap, consK2_ap, consK1_ap, cons_ap, cons2_some, stabs_nil, stabs_cons, derefs_nil, derefs_cons, tupK_ap, tup_ap, lstK_ap, lst_ap, tupT_0, tupT_1, tupT_2, tupT_3, lstT_0, lstT_1, lstT_2, lstT_3, cbT_some, cbK_ap, cb_ap, mtT2_some, mtK2_ap, mtK_ap, mt_ap, ty_lst, mutT3_some, mutT2_some, mutK2_ap, mutT0_slot, mut_ap, slT_some, slK3_ap, slK2_ap, slK1_ap, sl_ap, intT_int, partK_ap, part_ap, rg1T_int, rg1K_ap, rg1_ap, rg2T_int, rg2K2_ap, rg2K1_ap, rg2_ap, lrK_ap, listRg_ap, next_ap, seq_ap, sqT_next, sqT_ret, sqT_brk, sqT_cont, sqT_err, dropK_ap, drop_ap, retT_some, retK_ap, ret_ap, retD_val, retD_fresh, owT_ow, retD_slot, io0_n, io0_sh, io0_ow, io0_succ, noIo_ap, asg_nil, asg_cons, asT2_some, asg_valF, asg_freF, asg_freL, asg_freK, asg_freT, parT_some, parK_ap, par_ap, valT_some, valK_ap, val_ap, stT2_some, stT_some, stT0_slot, stK3_ap, stK2_ap, stK1_ap, store_ap, auT3_some, auK3_ap, auT2_some, auT1_some, auT0_slot, auK2_ap, auK1_ap, augS_ap, augT2_int, augK_ap, augT_int, aug_ap, itLT_lst, itLK_ap, itL_ap, itTT_tup, itTK_ap, itT_ap, itR1T_int, itR1K_ap, itR1_ap, itR2T_int, itR2K_ap, itR2_ap, for_ap, lcT_some, lcK_ap, lc_ap, clK_ap, call_ap, clT0_some, clT_ok, clT_err, raise_ap, try_ap, tryT_err, tryT_ok, noErr_ap, neT_ok, share_ap, shT_ow, mkG_ap, enT_ret, enT_next, enT_err, outs_nil, outs_cons, ouT_io, gEq_int, gNe_int, gAdd_int, gSub_int, gLt_int, gLe_int, gGt_int, gGe_int, gInt_int, gAbs_int, gIx_lst, gIx_tup, gLen_lst, gLen_tup, gLen_dK, gTupleOf_lst, gTupleOf_tup, gListOf_lst, gListOf_tup, set_ap, tg_ap, wipe_nil, wipe_cons, pb_nil, pb_cons, noOwn_ap, noT_none, noT_sh, putC_nil, putC_cons, ioL_nil, ioL_cons, ioLT_slot, ioLT_fresh, argOk_nil, argOk_val, argOk_fresh, argOk_slot, clT0_some, List.all_cons, List.all_nil, Bool.and_true, Bool.true_and, Bool.and_self, Bool.not_false, Bool.not_true, eq_self, if_true, if_false, and_true, true_and, and_self, List.length_cons, List.length_nil, List.mem_cons, List.not_mem_nil, or_false, false_or, true_or, decide_true, decide_false, forall_eq, List.getElem?_cons_zero, List.getElem?_cons_succ, Option.map_some, ty_lst, Nat.zero_add, not_false_eq_true, implies_true, false_implies, Nat.lt_add_one, Nat.zero_lt_succ, Nat.reduceLT, Nat.reduceAdd, Nat.reduceEqDiff, mutT_LN, mtT_LN, mutT_lst, mtT_lst, dBody, lw, Sh, gNe_I, c]
      rw [e]
      obtain ⟨h', a, b, d, e2⟩ := d_loop x y z f1 f2 u s5 s7 s8 s10 s13 s14 s15 s17 l acc f.2.2 (Sh f.2.2) (Sh f.1) (Sh f.2.1) (by omega) (.inr ⟨_, rfl⟩) (.inr ⟨_, rfl⟩) (.inr ⟨_, rfl⟩)
      refine ⟨h', a, b, d, ?_⟩
      rw [dueL, if_pos c, List.nil_append]
      exact e2
    · have e : dBody (lw x y z f1 f2 u s5 (Sh f.2.2) s7 s8 (Sh h) s10 (Sh f.1) (Sh f.2.1) s13 s14 s15 (some (.sh (LI acc))) s17) = some (.ok .next, lw x y z f1 f2 u s5 (Sh f.2.2) s7 s8 (Sh f.2.2) s10 (Sh f.1) (Sh f.2.1) s13 s14 s15 (some (.sh (LI (acc ++ [f.1, f.1 + f.2.1])))) s17) := by
        simp only [bT_ok, bT_err, bT_none, bind_ap, pure_ap, of_ap, ofT_some, ofT_none, at0_zero, at0_succ, var_ap, vT_sh, vT_ow, vT_io, cont_ap, cT_ow, cT_io, deref_val, deref_fresh, deref_slot, stab_val, stab_fresh, set0_zero, set0_succ, setC_ap, scT_ow, scT_io, fC_ap, binT_some, binK2_ap, binK1_ap, bin_ap, testT_bl, testK_ap, test_ap, truT_some, truK_ap, truth_ap, andK_t, andK_f, and_ap, orK_f, orK_t, or_ap, notK_ap, not_ap, ifK_t, ifK_f, if_ap, ifS_ap, andVT_t, andVT_f, andVK_ap, andV_ap, orVT_f, orVT_t, orVK_ap, orV_ap, notVT_bl, notVK_ap, notV_ap, chK3_ap, chT0_some, chT_t, chT_f, chK2_ap, chK1_ap, chain_ap, nil_ap, consK2_ap, consK1_ap, cons_ap, cons2_some, stabs_nil, stabs_cons, derefs_nil, derefs_cons, tupK_ap, tup_ap, lstK_ap, lst_ap, tupT_0, tupT_1, tupT_2, tupT_3, lstT_0, lstT_1, lstT_2, lstT_3, cbT_some, cbK_ap, cb_ap, mtT2_some, mtK2_ap, mtK_ap, mt_ap, ty_lst, mutT3_some, mutT2_some, mutK2_ap, mutT0_slot, mut_ap, slT_some, slK3_ap, slK2_ap, slK1_ap, sl_ap, intT_int, partK_ap, part_ap, rg1T_int, rg1K_ap, rg1_ap, rg2T_int, rg2K2_ap, rg2K1_ap, rg2_ap, lrK_ap, listRg_ap, next_ap, seq_ap, sqT_next, sqT_ret, sqT_brk, sqT_cont, sqT_err, dropK_ap, drop_ap, retT_some, retK_ap, ret_ap, retD_val, retD_fresh, owT_ow, retD_slot, io0_n, io0_sh, io0_ow, io0_succ, noIo_ap, asg_nil, asg_cons, asT2_some, asg_valF, asg_freF, asg_freL, asg_freK, asg_freT, parT_some, parK_ap, par_ap, valT_some, valK_ap, val_ap, stT2_some, stT_some, stT0_slot, stK3_ap, stK2_ap, stK1_ap, store_ap, auT3_some, auK3_ap, auT2_some, auT1_some, auT0_slot, auK2_ap, auK1_ap, augS_ap, augT2_int, augK_ap, augT_int, aug_ap, itLT_lst, itLK_ap, itL_ap, itTT_tup, itTK_ap, itT_ap, itR1T_int, itR1K_ap, itR1_ap, itR2T_int, itR2K_ap, itR2_ap, for_ap, lcT_some, lcK_ap, lc_ap, clK_ap, call_ap, clT0_some, clT_ok, clT_err, raise_ap, try_ap, tryT_err, tryT_ok, noErr_ap, neT_ok, share_ap, shT_ow, mkG_ap, enT_ret, enT_next, enT_err, outs_nil, outs_cons, ouT_io, gEq_int, gNe_int, gAdd_int, gSub_int, gLt_int, gLe_int, gGt_int, gGe_int, gInt_int, gAbs_int, gIx_lst, gIx_tup, gLen_lst, gLen_tup, gLen_dK, gTupleOf_lst, gTupleOf_tup, gListOf_lst, gListOf_tup, set_ap, tg_ap, wipe_nil, wipe_cons, pb_nil, pb_cons, noOwn_ap, noT_none, noT_sh, putC_nil, putC_cons, ioL_nil, ioL_cons, ioLT_slot, ioLT_fresh, argOk_nil, argOk_val, argOk_fresh, argOk_slot, clT0_some, List.all_cons, List.all_nil, Bool.and_true, Bool.true_and, Bool.and_self, Bool.not_false, Bool.not_true, eq_self, if_true, if_false, and_true, true_and, and_self, List.length_cons, List.length_nil, List.mem_cons, List.not_mem_nil, or_false, false_or, true_or, decide_true, decide_false, forall_eq, List.getElem?_cons_zero, List.getElem?_cons_succ, Option.map_some, ty_lst, Nat.zero_add, not_false_eq_true, implies_true, false_implies, Nat.lt_add_one, Nat.zero_lt_succ, Nat.reduceLT, Nat.reduceAdd, Nat.reduceEqDiff, mutT_LN, mtT_LN, mutT_lst, mtT_lst, dBody, lw, Sh, gNe_I, c, gAdd_LI acc _ _ (show acc.length ≤ 1000 by omega), asgLI]
      rw [e]
      obtain ⟨h', a, b, d, e2⟩ := d_loop x y z f1 f2 u s5 s7 s8 s10 s13 s14 s15 s17 l (acc ++ [f.1, f.1 + f.2.1]) f.2.2 (Sh f.2.2) (Sh f.1) (Sh f.2.1) (by simp; omega) (.inr ⟨_, rfl⟩) (.inr ⟨_, rfl⟩) (.inr ⟨_, rfl⟩)
      refine ⟨h', a, b, d, ?_⟩
      rw [dueL, if_neg c, ← List.append_assoc]
      exact e2
/-! those that are due, each once -/
theorem foldS_mem : ∀ (l acc : List Int) (k : Int), k ∈ l.foldl insS acc ↔ k ∈ acc ∨ k ∈ l
  | [], acc, k => by simp
  | a :: l, acc, k => by
    rw [List.foldl_cons, foldS_mem l (insS acc a) k]
    have : k ∈ insS acc a ↔ k ∈ acc ∨ k = a := by
      unfold insS
      split
      · rename_i h
        exact ⟨.inl, fun z => z.elim id fun e => by rw [e]; exact h⟩
      · rw [List.mem_append, List.mem_singleton]
    rw [this, List.mem_cons]
    constructor
    · rintro ((h | h) | h)
      · exact .inl h
      · exact .inr (.inl h)
      · exact .inr (.inr h)
    · rintro (h | h | h)
      · exact .inl (.inl h)
      · exact .inl (.inr h)
      · exact .inr h
theorem any_I (p : List Int) (a : Int) : ((p.map D.int).any fun z => deq z (.int a)) = decide (a ∈ p) := by
  induction p with
  | nil => rfl
  | cons b p ih =>
    rw [List.map_cons, List.any_cons, ih, deq_int]
    by_cases h : b = a
    · subst h; simp
    · have h' : ¬ a = b := fun z => h z.symm
      simp [h, h']
theorem gNotIn_I (p : List Int) (a : Int) : gNotIn (.int a) (.lst (p.map .int)) = some (.val (.bl (!decide (a ∈ p)))) := by
  have h : isIn (.int a) (.lst (p.map .int)) = some (decide (a ∈ p)) := by
    show (if shp (.int a) = true ∧ shp (.lst (p.map .int)) = true then some ((p.map D.int).any fun z => deq z (.int a)) else none) = _
    rw [if_pos ⟨shp_int a, (okD_ints p).shp⟩, any_I]
  unfold gNotIn
  rw [h]
  rfl
theorem gSl_k (l : List Int) {k : Nat} (hk : k ≤ l.length) : gSl none (some (k : Int)) (LI l) = some (.fresh (.lst ((l.take k).map .int))) := by
  unfold gSl LI
  simp only
  refine congrArg (fun d => some (R.fresh (D.lst d))) ?_
  unfold cutD
  have e1 : HT.sIx (l.map D.int).length 0 none = 0 := rfl
  have e2 : HT.sIx (l.map D.int).length (l.map D.int).length (some (k : Int)) = k := by
    unfold HT.sIx
    rw [List.length_map]
    simp only
    split <;> omega
  rw [e1, e2, List.drop_zero, Nat.sub_zero, List.map_take]
theorem gIx_LI {l : List Int} {i : Nat} {a : Int} (h : l[i]? = some a) : gIx (LI l) (iN i) = some (.val (.int a)) := by
  unfold LI
  show (atI (l.map D.int) (i : Int)).map R.val = _
  rw [atI_nat' (d := .int a) (by rw [List.getElem?_map, h]; rfl)]
  rfl
theorem gLen_LI (l : List Int) : gLen [LI l] = some (.val (iN l.length)) := by
  unfold LI
  rw [gLen_lst, List.length_map]
  rfl
def uTest : M Bool := (fTest (fBin gNotIn (fBin gIx (fVar 16) (fVar 17)) (fSl (fVar 16) (M.pure none) (fPart (fVar 17)))))
def uElt : M R := (fBin gIx (fVar 16) (fVar 17))
theorem partT_iN (ρ : DEnv) (k : Nat) : fPart (fVar 17) ρ = (match at0 ρ 17 with | some (.sh (.int i)) => some (.ok (some i), ρ) | _ => fPart (fVar 17) ρ) := by
  split
  · rename_i i h
    unfold fPart
    rw [bind_ap, var_ap, h]
    rfl
  · rfl
theorem u_run (x y z : Int) (f1 f2 : List Fd) (u : Int) (s5 s6 s7 s8 s9 s10 s11 s12 s13 s14 s15 : Option SV) (l : List Int) (hl : l.length ≤ 1000) : ∃ s17, okS s17 ∧ lcLoop [17] (fTg 17) uTest uElt ((List.range l.length).map iN) [] (lw x y z f1 f2 u s5 s6 s7 s8 s9 s10 s11 s12 s13 s14 s15 (some (.sh (LI l))) none) = some ((l.foldl insS []).map .int, lw x y z f1 f2 u s5 s6 s7 s8 s9 s10 s11 s12 s13 s14 s15 (some (.sh (LI l))) s17) := by
  obtain ⟨acc, ρ', h1, s17, h17, rfl, rfl⟩ := lc_inv (vs := [17]) (fg := fTg 17) (ft := uTest) (fe := uElt) (fun k acc ρ => ∃ s17, okS s17 ∧ ρ = lw x y z f1 f2 u s5 s6 s7 s8 s9 s10 s11 s12 s13 s14 s15 (some (.sh (LI l))) s17 ∧ acc = ((l.take k).foldl insS []).map .int) (ds := (List.range l.length).map iN) (ρ := lw x y z f1 f2 u s5 s6 s7 s8 s9 s10 s11 s12 s13 s14 s15 (some (.sh (LI l))) none) ⟨none, .inl rfl, rfl, rfl⟩ (by
    rintro k acc ρ d hd ⟨s17, h17, rfl, rfl⟩
    rw [List.getElem?_map] at hd
    obtain ⟨j, hj, rfl⟩ := Option.map_eq_some_iff.mp hd
    obtain ⟨hjl, hjk⟩ := List.getElem?_eq_some_iff.mp hj
    have ejk : j = k := by
      rw [List.getElem_range] at hjk
      exact hjk.symm
    subst ejk
    have hkl : j < l.length := by simpa using hjl
    have hv : l[j]? = some l[j] := List.getElem?_eq_getElem hkl
    have htk : l.take (j + 1) = l.take j ++ [l[j]] := by rw [List.take_add_one, hv]; rfl
    have hmem : (l[j] ∈ (l.take j).foldl insS []) ↔ l[j] ∈ l.take j := by
      rw [foldS_mem]; simp
    have tst : uTest (lw x y z f1 f2 u s5 s6 s7 s8 s9 s10 s11 s12 s13 s14 s15 (some (.sh (LI l))) (some (.sh (iN j)))) = some (.ok (!decide (l[j] ∈ l.take j)), lw x y z f1 f2 u s5 s6 s7 s8 s9 s10 s11 s12 s13 s14 s15 (some (.sh (LI l))) (some (.sh (iN j)))) := by
      have hp : fPart (fVar 17) (lw x y z f1 f2 u s5 s6 s7 s8 s9 s10 s11 s12 s13 s14 s15 (some (.sh (LI l))) (some (.sh (iN j)))) = some (.ok (some (j : Int)), lw x y z f1 f2 u s5 s6 s7 s8 s9 s10 s11 s12 s13 s14 s15 (some (.sh (LI l))) (some (.sh (iN j)))) := rfl
      unfold lw at hp ⊢
      simp only [bT_ok, bT_err, bT_none, bind_ap, pure_ap, of_ap, ofT_some, ofT_none, at0_zero, at0_succ, var_ap, vT_sh, vT_ow, vT_io, cont_ap, cT_ow, cT_io, deref_val, deref_fresh, deref_slot, stab_val, stab_fresh, set0_zero, set0_succ, setC_ap, scT_ow, scT_io, fC_ap, binT_some, binK2_ap, binK1_ap, bin_ap, testT_bl, testK_ap, test_ap, truT_some, truK_ap, truth_ap, andK_t, andK_f, and_ap, orK_f, orK_t, or_ap, notK_ap, not_ap, ifK_t, ifK_f, if_ap, ifS_ap, andVT_t, andVT_f, andVK_ap, andV_ap, orVT_f, orVT_t, orVK_ap, orV_ap, notVT_bl, notVK_ap, notV_ap, chK3_ap, chT0_some, chT_t, chT_f, chK2_ap, chK1_ap, chain_ap, nil_ap, consK2_ap, consK1_ap, cons_ap, cons2_some, stabs_nil, stabs_cons, derefs_nil, derefs_cons, tupK_ap, tup_ap, lstK_ap, lst_ap, tupT_0, tupT_1, tupT_2, tupT_3, lstT_0, lstT_1, lstT_2, lstT_3, cbT_some, cbK_ap, cb_ap, mtT2_some, mtK2_ap, mtK_ap, mt_ap, ty_lst, mutT3_some, mutT2_some, mutK2_ap, mutT0_slot, mut_ap, slT_some, slK3_ap, slK2_ap, slK1_ap, sl_ap, rg1T_int, rg1K_ap, rg1_ap, rg2T_int, rg2K2_ap, rg2K1_ap, rg2_ap, lrK_ap, listRg_ap, next_ap, seq_ap, sqT_next, sqT_ret, sqT_brk, sqT_cont, sqT_err, dropK_ap, drop_ap, retT_some, retK_ap, ret_ap, retD_val, retD_fresh, owT_ow, retD_slot, io0_n, io0_sh, io0_ow, io0_succ, noIo_ap, asg_nil, asg_cons, asT2_some, asg_valF, asg_freF, asg_freL, asg_freK, asg_freT, parT_some, parK_ap, par_ap, valT_some, valK_ap, val_ap, stT2_some, stT_some, stT0_slot, stK3_ap, stK2_ap, stK1_ap, store_ap, auT3_some, auK3_ap, auT2_some, auT1_some, auT0_slot, auK2_ap, auK1_ap, augS_ap, augT2_int, augK_ap, augT_int, aug_ap, itLT_lst, itLK_ap, itL_ap, itTT_tup, itTK_ap, itT_ap, itR1T_int, itR1K_ap, itR1_ap, itR2T_int, itR2K_ap, itR2_ap, for_ap, lcT_some, lcK_ap, lc_ap, clK_ap, call_ap, clT0_some, clT_ok, clT_err, raise_ap, try_ap, tryT_err, tryT_ok, noErr_ap, neT_ok, share_ap, shT_ow, mkG_ap, enT_ret, enT_next, enT_err, outs_nil, outs_cons, ouT_io, gEq_int, gNe_int, gAdd_int, gSub_int, gLt_int, gLe_int, gGt_int, gGe_int, gInt_int, gAbs_int, gIx_lst, gIx_tup, gLen_lst, gLen_tup, gLen_dK, gTupleOf_lst, gTupleOf_tup, gListOf_lst, gListOf_tup, set_ap, tg_ap, wipe_nil, wipe_cons, pb_nil, pb_cons, noOwn_ap, noT_none, noT_sh, putC_nil, putC_cons, ioL_nil, ioL_cons, ioLT_slot, ioLT_fresh, argOk_nil, argOk_val, argOk_fresh, argOk_slot, clT0_some, List.all_cons, List.all_nil, Bool.and_true, Bool.true_and, Bool.and_self, Bool.not_false, Bool.not_true, eq_self, if_true, if_false, and_true, true_and, and_self, List.length_cons, List.length_nil, List.mem_cons, List.not_mem_nil, or_false, false_or, true_or, decide_true, decide_false, forall_eq, List.getElem?_cons_zero, List.getElem?_cons_succ, Option.map_some, ty_lst, Nat.zero_add, not_false_eq_true, implies_true, false_implies, Nat.lt_add_one, Nat.zero_lt_succ, Nat.reduceLT, Nat.reduceAdd, Nat.reduceEqDiff, mutT_LN, mtT_LN, mutT_lst, mtT_lst, uTest, gIx_LI hv, hp, gSl_k l (Nat.le_of_lt hkl), gNotIn_I]
    have elt : uElt (lw x y z f1 f2 u s5 s6 s7 s8 s9 s10 s11 s12 s13 s14 s15 (some (.sh (LI l))) (some (.sh (iN j)))) = some (.ok (.val (.int l[j])), lw x y z f1 f2 u s5 s6 s7 s8 s9 s10 s11 s12 s13 s14 s15 (some (.sh (LI l))) (some (.sh (iN j)))) := by
      simp only [bT_ok, bT_err, bT_none, bind_ap, pure_ap, of_ap, ofT_some, ofT_none, at0_zero, at0_succ, var_ap, vT_sh, vT_ow, vT_io, cont_ap, cT_ow, cT_io, deref_val, deref_fresh, deref_slot, stab_val, stab_fresh, set0_zero, set0_succ, setC_ap, scT_ow, scT_io, fC_ap, binT_some, binK2_ap, binK1_ap, bin_ap, testT_bl, testK_ap, test_ap, truT_some, truK_ap, truth_ap, andK_t, andK_f, and_ap, orK_f, orK_t, or_ap, notK_ap, not_ap, ifK_t, ifK_f, if_ap, ifS_ap, andVT_t, andVT_f, andVK_ap, andV_ap, orVT_f, orVT_t, orVK_ap, orV_ap, notVT_bl, notVK_ap, notV_ap, chK3_ap, chT0_some, chT_t, chT_f, chK2_ap, chK1_ap, chain_ap, nil_ap, consK2_ap, consK1_ap, cons_ap, cons2_some, stabs_nil, stabs_cons, derefs_nil, derefs_cons, tupK_ap, tup_ap, lstK_ap, lst_ap, tupT_0, tupT_1, tupT_2, tupT_3, lstT_0, lstT_1, lstT_2, lstT_3, cbT_some, cbK_ap, cb_ap, mtT2_some, mtK2_ap, mtK_ap, mt_ap, ty_lst, mutT3_some, mutT2_some, mutK2_ap, mutT0_slot, mut_ap, slT_some, slK3_ap, slK2_ap, slK1_ap, sl_ap, intT_int, partK_ap, part_ap, rg1T_int, rg1K_ap, rg1_ap, rg2T_int, rg2K2_ap, rg2K1_ap, rg2_ap, lrK_ap, listRg_ap, next_ap, seq_ap, sqT_next, sqT_ret, sqT_brk, sqT_cont, sqT_err, dropK_ap, drop_ap, retT_some, retK_ap, ret_ap, retD_val, retD_fresh, owT_ow, retD_slot, io0_n, io0_sh, io0_ow, io0_succ, noIo_ap, asg_nil, asg_cons, asT2_some, asg_valF, asg_freF, asg_freL, asg_freK, asg_freT, parT_some, parK_ap, par_ap, valT_some, valK_ap, val_ap, stT2_some, stT_some, stT0_slot, stK3_ap, stK2_ap, stK1_ap, store_ap, auT3_some, auK3_ap, auT2_some, auT1_some, auT0_slot, auK2_ap, auK1_ap, augS_ap, augT2_int, augK_ap, augT_int, aug_ap, itLT_lst, itLK_ap, itL_ap, itTT_tup, itTK_ap, itT_ap, itR1T_int, itR1K_ap, itR1_ap, itR2T_int, itR2K_ap, itR2_ap, for_ap, lcT_some, lcK_ap, lc_ap, clK_ap, call_ap, clT0_some, clT_ok, clT_err, raise_ap, try_ap, tryT_err, tryT_ok, noErr_ap, neT_ok, share_ap, shT_ow, mkG_ap, enT_ret, enT_next, enT_err, outs_nil, outs_cons, ouT_io, gEq_int, gNe_int, gAdd_int, gSub_int, gLt_int, gLe_int, gGt_int, gGe_int, gInt_int, gAbs_int, gIx_lst, gIx_tup, gLen_lst, gLen_tup, gLen_dK, gTupleOf_lst, gTupleOf_tup, gListOf_lst, gListOf_tup, set_ap, tg_ap, wipe_nil, wipe_cons, pb_nil, pb_cons, noOwn_ap, noT_none, noT_sh, putC_nil, putC_cons, ioL_nil, ioL_cons, ioLT_slot, ioLT_fresh, argOk_nil, argOk_val, argOk_fresh, argOk_slot, clT0_some, List.all_cons, List.all_nil, Bool.and_true, Bool.true_and, Bool.and_self, Bool.not_false, Bool.not_true, eq_self, if_true, if_false, and_true, true_and, and_self, List.length_cons, List.length_nil, List.mem_cons, List.not_mem_nil, or_false, false_or, true_or, decide_true, decide_false, forall_eq, List.getElem?_cons_zero, List.getElem?_cons_succ, Option.map_some, ty_lst, Nat.zero_add, not_false_eq_true, implies_true, false_implies, Nat.lt_add_one, Nat.zero_lt_succ, Nat.reduceLT, Nat.reduceAdd, Nat.reduceEqDiff, mutT_LN, mtT_LN, mutT_lst, mtT_lst, uElt, lw, gIx_LI hv]
    refine ⟨lw x y z f1 f2 u s5 s6 s7 s8 s9 s10 s11 s12 s13 s14 s15 (some (.sh (LI l))) (some (.sh (iN j))), rfl, ?_⟩
    by_cases hm : l[j] ∈ l.take j
    · refine .inl ⟨_, by rw [tst, decide_eq_true hm]; rfl, _, .inr ⟨_, rfl⟩, rfl, ?_⟩
      rw [htk, List.foldl_append, List.foldl_cons, List.foldl_nil]
      have : insS ((l.take j).foldl insS []) l[j] = (l.take j).foldl insS [] := if_pos (hmem.mpr hm)
      rw [this]
    · refine .inr ⟨_, _, _, _, by rw [tst, decide_eq_false hm]; rfl, elt, rfl, ?_, _, .inr ⟨_, rfl⟩, rfl, ?_⟩
      · have := foldS_len (l.take j) []
        rw [List.length_map]
        refine sz1000 ?_
        rw [List.length_take] at this
        simp at this
        omega
      · rw [htk, List.foldl_append, List.foldl_cons, List.foldl_nil]
        have : insS ((l.take j).foldl insS []) l[j] = (l.take j).foldl insS [] ++ [l[j]] := if_neg fun z => hm (hmem.mp z)
        rw [this, List.map_append]
        rfl)
  rw [List.length_map, List.length_range, List.take_length] at h1
  exact ⟨s17, h17, h1⟩
theorem gSortedI_I (l : List Int) : gSortedI [.lst (l.map .int)] = some (.fresh (.lst ((sortI l).map .int))) := by
  unfold gSortedI
  simp only
  rw [intsD_map]
theorem told_err {l : List (List Str × List Str × Str)} {f : M R} {ρ ρ1 : DEnv} {e : Exc} {r : Str} (h : f ρ = some (.error e, ρ1)) (h2 : toldAt l e = some r) : fTold l f ρ = some (.ok (.val (.str r)), ρ1) := by
  unfold fTold
  rw [h]
  simp only [h2]
theorem bad1 : g_check_fades [.lst [.tup [.int 0, .int 5, .int 10], .tup [.int 4, .int 1, .int 0]]] = some (.error ("BadTable", none), []) := by rfl
theorem bad2 : g_check_fades [.lst [.tup [.int 0, .int 5, .int 101]]] = some (.error ("BadTable", none), []) := by rfl
end
end K15

namespace K15
open PySem L2 L3
section
variable [Tb]
def q1 : M Fl := (fPar [(2, false), (3, false), (4, false)] (fCons (fCall [0] 1 g_law_fades (fCons (fVar 1) fNil)) (fCons (fCall [0] 1 g_law_fades (fCons (fVar 1) fNil)) (fCons (fCall [0] 2 g_law_roll (fCons (fVar 1) (fCons (fVal (fC (.int 30))) fNil))) fNil))))
def q2 : M Fl := (fFor (fItR1 (fCons (fC (.int 30)) fNil)) (fTg 5) tBody)
def q3 : M Fl := (fPar [(8, false), (9, false), (10, false)] (fCons (fC (.int 0)) (fCons (fC (.int 0)) (fCons (fC (.int 0)) fNil))))
def q4 : M Fl := (fFor (fItL (fVar 2)) (t3 11 12 6) wBody)
def q5 : M Fl := (fPar [(8, false)] (fCons (fBin gAdd (fVar 8) (fBin gMul (fBin gMul (fC (.int 120)) (fVar 9)) (fCB gMax (fCons (fC (.int 0)) (fCons (fBin gSub (fVar 4) (fVar 10)) fNil))))) fNil))
def q6 : M Fl := (fIfS (fTest (fBin gNe (fCall [] 2 g_light (fCons (fVal (fVar 2)) (fCons (fVal (fVar 4)) fNil))) (fCall [] 2 g_part (fCons (fVal (fVar 8)) (fCons (fVal (fC (.int 120))) fNil))))) (fRet (fC (.bl false))) fNext)
def q7 : M Fl := (fPar [(16, false), (9, false)] (fCons (fLst fNil) (fCons (fC (.int 0)) fNil)))
def q8 : M Fl := (fFor (fItL (fVar 2)) (t3 11 12 6) dBody)
def q9 : M Fl := (fIfS (fTest (fBin gNe (fCB gListOf (fCons (fCall [] 1 g_changes (fCons (fVal (fVar 2)) fNil)) fNil)) (fCB gSortedI (fCons (fLc (fItR1 (fCons (fCB gLen (fCons (fVar 16) fNil)) fNil)) [17] (fTg 17) uTest uElt) fNil)))) (fRet (fC (.bl false))) fNext)
def b1 : M R := (fCall [] 1 g_check_fades (fCons (fVal (fLst (fCons (fTup (fCons (fC (.int 0)) (fCons (fC (.int 5)) (fCons (fC (.int 10)) fNil)))) (fCons (fTup (fCons (fC (.int 4)) (fCons (fC (.int 1)) (fCons (fC (.int 0)) fNil)))) fNil)))) fNil))
def b2 : M R := (fCall [] 1 g_check_fades (fCons (fVal (fLst (fCons (fTup (fCons (fC (.int 0)) (fCons (fC (.int 5)) (fCons (fC (.int 101)) fNil)))) fNil))) fNil))
def tl : List (List Str × List Str × Str) := [([], ["BadTable"], "no way"), (["BadTable"], [], "table"), ([], ["BadTable"], "paper")]
def q10 : M Fl := (fIfS (fTest (fBin gNe (fTold tl b1) (fC (.str "table")))) (fRet (fC (.bl false))) fNext)
def q11 : M Fl := (fIfS (fTest (fBin gNe (fTold tl b2) (fC (.str "table")))) (fRet (fC (.bl false))) fNext)
theorem d_law_eq : d_law = fSeq q1 (fSeq q2 (fSeq q3 (fSeq q4 (fSeq q5 (fSeq q6 (fSeq q7 (fSeq q8 (fSeq q9 (fSeq q10 q11))))))))) := rfl
theorem told_at : toldAt tl ("BadTable", none) = some "table" := by decide
theorem gNe_str : gNe (.str "table") (.str "table") = some (.val (.bl false)) := by
  unfold gNe
  have h1 : shp (.str "table") = true := by (simp [shp, toPy, SeqAt.shaped, PyData.canLay0, PyData.depth]; decide +kernel)
  rw [if_pos ⟨h1, h1⟩]
  have h2 : deq (.str "table") (.str "table") = true := by simp [deq, toPy, PyData.eqv]
  rw [h2]; rfl
theorem law_run (x y z : Int) : ∃ ρ', d_law (startLaw 18 x y z) = some (.ok .next, ρ') ∧ ρ'.length = 18 := by
  obtain ⟨x1, y1, z1, f1, r1, o1, l1⟩ := fades_run x y z
  obtain ⟨x2, y2, z2, f2, r2, o2, l2⟩ := fades_run x1 y1 z1
  obtain ⟨u, x3, y3, z3, r3, u0, u1⟩ := roll_R x2 y2 z2 (n := 30) (by decide) (by decide)
  have hst : startLaw 18 x y z = [none, some (.ow (diceD x y z)), none, none, none, none, none, none, none, none, none, none, none, none, none, none, none, none] := rfl
  have s1 : q1 (startLaw 18 x y z) = some (.ok .next, lw x3 y3 z3 f1 f2 u none none none none none none none none none none none none none) := by
    rw [hst]
    simp only [bT_ok, bT_err, bT_none, bind_ap, pure_ap, of_ap, ofT_some, ofT_none, at0_zero, at0_succ, var_ap, vT_sh, vT_ow, vT_io, cont_ap, cT_ow, cT_io, deref_val, deref_fresh, deref_slot, stab_val, stab_fresh, set0_zero, set0_succ, setC_ap, scT_ow, scT_io, fC_ap, binT_some, binK2_ap, binK1_ap, bin_ap, testT_bl, testK_ap, test_ap, truT_some, truK_ap, truth_ap, andK_t, andK_f, and_ap, orK_f, orK_t, or_ap, notK_ap, not_ap, ifK_t, ifK_f, if_ap, ifS_ap, andVT_t, andVT_f, andVK_ap, andV_ap, orVT_f, orVT_t, orVK_ap, orV_ap, notVT_bl, notVK_ap, notV_ap, chK3_ap, chT0_some, chT_t, chT_f, chK2_ap, chK1_ap, chain_ap, nil_ap, consK2_ap, consK1_ap, cons_ap, cons2_some, stabs_nil, stabs_cons, derefs_nil, derefs_cons, tupK_ap, tup_ap, lstK_ap, lst_ap, tupT_0, tupT_1, tupT_2, tupT_3, lstT_0, lstT_1, lstT_2, lstT_3, cbT_some, cbK_ap, cb_ap, mtT2_some, mtK2_ap, mtK_ap, mt_ap, ty_lst, mutT3_some, mutT2_some, mutK2_ap, mutT0_slot, mut_ap, slT_some, slK3_ap, slK2_ap, slK1_ap, sl_ap, intT_int, partK_ap, part_ap, rg1T_int, rg1K_ap, rg1_ap, rg2T_int, rg2K2_ap, rg2K1_ap, rg2_ap, lrK_ap, listRg_ap, next_ap, seq_ap, sqT_next, sqT_ret, sqT_brk, sqT_cont, sqT_err, dropK_ap, drop_ap, retT_some, retK_ap, ret_ap, retD_val, retD_fresh, owT_ow, retD_slot, io0_n, io0_sh, io0_ow, io0_succ, noIo_ap, asg_nil, asg_cons, asT2_some, asg_valF, asg_freF, asg_freL, asg_freK, asg_freT, parT_some, parK_ap, par_ap, valT_some, valK_ap, val_ap, stT2_some, stT_some, stT0_slot, stK3_ap, stK2_ap, stK1_ap, store_ap, auT3_some, auK3_ap, auT2_some, auT1_some, auT0_slot, auK2_ap, auK1_ap, augS_ap, augT2_int, augK_ap, augT_int, aug_ap, itLT_lst, itLK_ap, itL_ap, itTT_tup, itTK_ap, itT_ap, itR1T_int, itR1K_ap, itR1_ap, itR2T_int, itR2K_ap, itR2_ap, for_ap, lcT_some, lcK_ap, lc_ap, clK_ap, call_ap, clT0_some, clT_ok, clT_err, raise_ap, try_ap, tryT_err, tryT_ok, noErr_ap, neT_ok, share_ap, shT_ow, mkG_ap, enT_ret, enT_next, enT_err, outs_nil, outs_cons, ouT_io, gEq_int, gNe_int, gAdd_int, gSub_int, gLt_int, gLe_int, gGt_int, gGe_int, gInt_int, gAbs_int, gIx_lst, gIx_tup, gLen_lst, gLen_tup, gLen_dK, gTupleOf_lst, gTupleOf_tup, gListOf_lst, gListOf_tup, set_ap, tg_ap, wipe_nil, wipe_cons, pb_nil, pb_cons, noOwn_ap, noT_none, noT_sh, putC_nil, putC_cons, ioL_nil, ioL_cons, ioLT_slot, ioLT_fresh, argOk_nil, argOk_val, argOk_fresh, argOk_slot, clT0_some, List.all_cons, List.all_nil, Bool.and_true, Bool.true_and, Bool.and_self, Bool.not_false, Bool.not_true, eq_self, if_true, if_false, and_true, true_and, and_self, List.length_cons, List.length_nil, List.mem_cons, List.not_mem_nil, or_false, false_or, true_or, decide_true, decide_false, forall_eq, List.getElem?_cons_zero, List.getElem?_cons_succ, Option.map_some, ty_lst, Nat.zero_add, not_false_eq_true, implies_true, false_implies, Nat.lt_add_one, Nat.zero_lt_succ, Nat.reduceLT, Nat.reduceAdd, Nat.reduceEqDiff, mutT_LN, mtT_LN, mutT_lst, mtT_lst, q1, r1, r2, r3, lw]
  obtain ⟨s5, s6, s7, h6, e2⟩ := t_loop o1 o2 x3 y3 z3 u
  have s2 : q2 (lw x3 y3 z3 f1 f2 u none none none none none none none none none none none none none) = some (.ok .next, lw x3 y3 z3 f1 f2 u s5 s6 s7 none none none none none none none none none none) := e2
  have s3 : q3 (lw x3 y3 z3 f1 f2 u s5 s6 s7 none none none none none none none none none none) = some (.ok .next, lw x3 y3 z3 f1 f2 u s5 s6 s7 (Sh 0) (Sh 0) (Sh 0) none none none none none none none) := by
    simp only [bT_ok, bT_err, bT_none, bind_ap, pure_ap, of_ap, ofT_some, ofT_none, at0_zero, at0_succ, var_ap, vT_sh, vT_ow, vT_io, cont_ap, cT_ow, cT_io, deref_val, deref_fresh, deref_slot, stab_val, stab_fresh, set0_zero, set0_succ, setC_ap, scT_ow, scT_io, fC_ap, binT_some, binK2_ap, binK1_ap, bin_ap, testT_bl, testK_ap, test_ap, truT_some, truK_ap, truth_ap, andK_t, andK_f, and_ap, orK_f, orK_t, or_ap, notK_ap, not_ap, ifK_t, ifK_f, if_ap, ifS_ap, andVT_t, andVT_f, andVK_ap, andV_ap, orVT_f, orVT_t, orVK_ap, orV_ap, notVT_bl, notVK_ap, notV_ap, chK3_ap, chT0_some, chT_t, chT_f, chK2_ap, chK1_ap, chain_ap, nil_ap, consK2_ap, consK1_ap, cons_ap, cons2_some, stabs_nil, stabs_cons, derefs_nil, derefs_cons, tupK_ap, tup_ap, lstK_ap, lst_ap, tupT_0, tupT_1, tupT_2, tupT_3, lstT_0, lstT_1, lstT_2, lstT_3, cbT_some, cbK_ap, cb_ap, mtT2_some, mtK2_ap, mtK_ap, mt_ap, ty_lst, mutT3_some, mutT2_some, mutK2_ap, mutT0_slot, mut_ap, slT_some, slK3_ap, slK2_ap, slK1_ap, sl_ap, intT_int, partK_ap, part_ap, rg1T_int, rg1K_ap, rg1_ap, rg2T_int, rg2K2_ap, rg2K1_ap, rg2_ap, lrK_ap, listRg_ap, next_ap, seq_ap, sqT_next, sqT_ret, sqT_brk, sqT_cont, sqT_err, dropK_ap, drop_ap, retT_some, retK_ap, ret_ap, retD_val, retD_fresh, owT_ow, retD_slot, io0_n, io0_sh, io0_ow, io0_succ, noIo_ap, asg_nil, asg_cons, asT2_some, asg_valF, asg_freF, asg_freL, asg_freK, asg_freT, parT_some, parK_ap, par_ap, valT_some, valK_ap, val_ap, stT2_some, stT_some, stT0_slot, stK3_ap, stK2_ap, stK1_ap, store_ap, auT3_some, auK3_ap, auT2_some, auT1_some, auT0_slot, auK2_ap, auK1_ap, augS_ap, augT2_int, augK_ap, augT_int, aug_ap, itLT_lst, itLK_ap, itL_ap, itTT_tup, itTK_ap, itT_ap, itR1T_int, itR1K_ap, itR1_ap, itR2T_int, itR2K_ap, itR2_ap, for_ap, lcT_some, lcK_ap, lc_ap, clK_ap, call_ap, clT0_some, clT_ok, clT_err, raise_ap, try_ap, tryT_err, tryT_ok, noErr_ap, neT_ok, share_ap, shT_ow, mkG_ap, enT_ret, enT_next, enT_err, outs_nil, outs_cons, ouT_io, gEq_int, gNe_int, gAdd_int, gSub_int, gLt_int, gLe_int, gGt_int, gGe_int, gInt_int, gAbs_int, gIx_lst, gIx_tup, gLen_lst, gLen_tup, gLen_dK, gTupleOf_lst, gTupleOf_tup, gListOf_lst, gListOf_tup, set_ap, tg_ap, wipe_nil, wipe_cons, pb_nil, pb_cons, noOwn_ap, noT_none, noT_sh, putC_nil, putC_cons, ioL_nil, ioL_cons, ioLT_slot, ioLT_fresh, argOk_nil, argOk_val, argOk_fresh, argOk_slot, clT0_some, List.all_cons, List.all_nil, Bool.and_true, Bool.true_and, Bool.and_self, Bool.not_false, Bool.not_true, eq_self, if_true, if_false, and_true, true_and, and_self, List.length_cons, List.length_nil, List.mem_cons, List.not_mem_nil, or_false, false_or, true_or, decide_true, decide_false, forall_eq, List.getElem?_cons_zero, List.getElem?_cons_succ, Option.map_some, ty_lst, Nat.zero_add, not_false_eq_true, implies_true, false_implies, Nat.lt_add_one, Nat.zero_lt_succ, Nat.reduceLT, Nat.reduceAdd, Nat.reduceEqDiff, mutT_LN, mtT_LN, mutT_lst, mtT_lst, q3, lw, Sh]
  obtain ⟨c6, c11, c12, a13, a14, a15, k6, k11, k12, i1, i2, i3, i4, e4⟩ := w_loop x3 y3 z3 f2 o1 (u := u) (by omega) f1 0 0 0 s5 s6 s7 none none none none none none none (fun f hf => hf) (by omega) (by omega) h6 (.inl rfl) (.inl rfl) (.inl rfl) (.inl rfl) (.inl rfl)
  generalize hW : f1.foldl (wS u f1) (0, 0, 0) = W at *
  have s4 : q4 (lw x3 y3 z3 f1 f2 u s5 s6 s7 (Sh 0) (Sh 0) (Sh 0) none none none none none none none) = some (.ok .next, lw x3 y3 z3 f1 f2 u s5 c6 s7 (Sh W.1) (Sh W.2.1) (Sh W.2.2) c11 c12 a13 a14 a15 none none) := e4
  have s5' : q5 (lw x3 y3 z3 f1 f2 u s5 c6 s7 (Sh W.1) (Sh W.2.1) (Sh W.2.2) c11 c12 a13 a14 a15 none none) = some (.ok .next, lw x3 y3 z3 f1 f2 u s5 c6 s7 (Sh (wF u W)) (Sh W.2.1) (Sh W.2.2) c11 c12 a13 a14 a15 none none) := by
    have m1 : ∀ i : Int, gMul (.int i) (.int W.2.1) = some (.val (.int (i * W.2.1))) := fun i => gMul_c i (by omega)
    have m2 : ∀ i : Int, gMul (.int i) (.int (max 0 (u - W.2.2))) = some (.val (.int (i * max 0 (u - W.2.2)))) := fun i => gMul_c i (by omega)
    simp only [bT_ok, bT_err, bT_none, bind_ap, pure_ap, of_ap, ofT_some, ofT_none, at0_zero, at0_succ, var_ap, vT_sh, vT_ow, vT_io, cont_ap, cT_ow, cT_io, deref_val, deref_fresh, deref_slot, stab_val, stab_fresh, set0_zero, set0_succ, setC_ap, scT_ow, scT_io, fC_ap, binT_some, binK2_ap, binK1_ap, bin_ap, testT_bl, testK_ap, test_ap, truT_some, truK_ap, truth_ap, andK_t, andK_f, and_ap, orK_f, orK_t, or_ap, notK_ap, not_ap, ifK_t, ifK_f, if_ap, ifS_ap, andVT_t, andVT_f, andVK_ap, andV_ap, orVT_f, orVT_t, orVK_ap, orV_ap, notVT_bl, notVK_ap, notV_ap, chK3_ap, chT0_some, chT_t, chT_f, chK2_ap, chK1_ap, chain_ap, nil_ap, consK2_ap, consK1_ap, cons_ap, cons2_some, stabs_nil, stabs_cons, derefs_nil, derefs_cons, tupK_ap, tup_ap, lstK_ap, lst_ap, tupT_0, tupT_1, tupT_2, tupT_3, lstT_0, lstT_1, lstT_2, lstT_3, cbT_some, cbK_ap, cb_ap, mtT2_some, mtK2_ap, mtK_ap, mt_ap, ty_lst, mutT3_some, mutT2_some, mutK2_ap, mutT0_slot, mut_ap, slT_some, slK3_ap, slK2_ap, slK1_ap, sl_ap, intT_int, partK_ap, part_ap, rg1T_int, rg1K_ap, rg1_ap, rg2T_int, rg2K2_ap, rg2K1_ap, rg2_ap, lrK_ap, listRg_ap, next_ap, seq_ap, sqT_next, sqT_ret, sqT_brk, sqT_cont, sqT_err, dropK_ap, drop_ap, retT_some, retK_ap, ret_ap, retD_val, retD_fresh, owT_ow, retD_slot, io0_n, io0_sh, io0_ow, io0_succ, noIo_ap, asg_nil, asg_cons, asT2_some, asg_valF, asg_freF, asg_freL, asg_freK, asg_freT, parT_some, parK_ap, par_ap, valT_some, valK_ap, val_ap, stT2_some, stT_some, stT0_slot, stK3_ap, stK2_ap, stK1_ap, store_ap, auT3_some, auK3_ap, auT2_some, auT1_some, auT0_slot, auK2_ap, auK1_ap, augS_ap, augT2_int, augK_ap, augT_int, aug_ap, itLT_lst, itLK_ap, itL_ap, itTT_tup, itTK_ap, itT_ap, itR1T_int, itR1K_ap, itR1_ap, itR2T_int, itR2K_ap, itR2_ap, for_ap, lcT_some, lcK_ap, lc_ap, clK_ap, call_ap, clT0_some, clT_ok, clT_err, raise_ap, try_ap, tryT_err, tryT_ok, noErr_ap, neT_ok, share_ap, shT_ow, mkG_ap, enT_ret, enT_next, enT_err, outs_nil, outs_cons, ouT_io, gEq_int, gNe_int, gAdd_int, gSub_int, gLt_int, gLe_int, gGt_int, gGe_int, gInt_int, gAbs_int, gIx_lst, gIx_tup, gLen_lst, gLen_tup, gLen_dK, gTupleOf_lst, gTupleOf_tup, gListOf_lst, gListOf_tup, set_ap, tg_ap, wipe_nil, wipe_cons, pb_nil, pb_cons, noOwn_ap, noT_none, noT_sh, putC_nil, putC_cons, ioL_nil, ioL_cons, ioLT_slot, ioLT_fresh, argOk_nil, argOk_val, argOk_fresh, argOk_slot, clT0_some, List.all_cons, List.all_nil, Bool.and_true, Bool.true_and, Bool.and_self, Bool.not_false, Bool.not_true, eq_self, if_true, if_false, and_true, true_and, and_self, List.length_cons, List.length_nil, List.mem_cons, List.not_mem_nil, or_false, false_or, true_or, decide_true, decide_false, forall_eq, List.getElem?_cons_zero, List.getElem?_cons_succ, Option.map_some, ty_lst, Nat.zero_add, not_false_eq_true, implies_true, false_implies, Nat.lt_add_one, Nat.zero_lt_succ, Nat.reduceLT, Nat.reduceAdd, Nat.reduceEqDiff, mutT_LN, mtT_LN, mutT_lst, mtT_lst, q5, lw, Sh, gMax_I, m1, m2, wF]
  have hl := light_run o1 l1 (u := u) u0 (by omega)
  rw [hW] at hl
  have s6' : q6 (lw x3 y3 z3 f1 f2 u s5 c6 s7 (Sh (wF u W)) (Sh W.2.1) (Sh W.2.2) c11 c12 a13 a14 a15 none none) = some (.ok .next, lw x3 y3 z3 f1 f2 u s5 c6 s7 (Sh (wF u W)) (Sh W.2.1) (Sh W.2.2) c11 c12 a13 a14 a15 none none) := by
    have q : ∀ a : Int, g_part [.int a, .int 120] = some (.ok (rd a 120), []) := fun a => part_run (by decide) (by decide)
    simp only [bT_ok, bT_err, bT_none, bind_ap, pure_ap, of_ap, ofT_some, ofT_none, at0_zero, at0_succ, var_ap, vT_sh, vT_ow, vT_io, cont_ap, cT_ow, cT_io, deref_val, deref_fresh, deref_slot, stab_val, stab_fresh, set0_zero, set0_succ, setC_ap, scT_ow, scT_io, fC_ap, binT_some, binK2_ap, binK1_ap, bin_ap, testT_bl, testK_ap, test_ap, truT_some, truK_ap, truth_ap, andK_t, andK_f, and_ap, orK_f, orK_t, or_ap, notK_ap, not_ap, ifK_t, ifK_f, if_ap, ifS_ap, andVT_t, andVT_f, andVK_ap, andV_ap, orVT_f, orVT_t, orVK_ap, orV_ap, notVT_bl, notVK_ap, notV_ap, chK3_ap, chT0_some, chT_t, chT_f, chK2_ap, chK1_ap, chain_ap, nil_ap, consK2_ap, consK1_ap, cons_ap, cons2_some, stabs_nil, stabs_cons, derefs_nil, derefs_cons, tupK_ap, tup_ap, lstK_ap, lst_ap, tupT_0, tupT_1, tupT_2, tupT_3, lstT_0, lstT_1, lstT_2, lstT_3, cbT_some, cbK_ap, cb_ap, mtT2_some, mtK2_ap, mtK_ap, mt_ap, ty_lst, mutT3_some, mutT2_some, mutK2_ap, mutT0_slot, mut_ap, slT_some, slK3_ap, slK2_ap, slK1_ap, sl_ap, intT_int, partK_ap, part_ap, rg1T_int, rg1K_ap, rg1_ap, rg2T_int, rg2K2_ap, rg2K1_ap, rg2_ap, lrK_ap, listRg_ap, next_ap, seq_ap, sqT_next, sqT_ret, sqT_brk, sqT_cont, sqT_err, dropK_ap, drop_ap, retT_some, retK_ap, ret_ap, retD_val, retD_fresh, owT_ow, retD_slot, io0_n, io0_sh, io0_ow, io0_succ, noIo_ap, asg_nil, asg_cons, asT2_some, asg_valF, asg_freF, asg_freL, asg_freK, asg_freT, parT_some, parK_ap, par_ap, valT_some, valK_ap, val_ap, stT2_some, stT_some, stT0_slot, stK3_ap, stK2_ap, stK1_ap, store_ap, auT3_some, auK3_ap, auT2_some, auT1_some, auT0_slot, auK2_ap, auK1_ap, augS_ap, augT2_int, augK_ap, augT_int, aug_ap, itLT_lst, itLK_ap, itL_ap, itTT_tup, itTK_ap, itT_ap, itR1T_int, itR1K_ap, itR1_ap, itR2T_int, itR2K_ap, itR2_ap, for_ap, lcT_some, lcK_ap, lc_ap, clK_ap, call_ap, clT0_some, clT_ok, clT_err, raise_ap, try_ap, tryT_err, tryT_ok, noErr_ap, neT_ok, share_ap, shT_ow, mkG_ap, enT_ret, enT_next, enT_err, outs_nil, outs_cons, ouT_io, gEq_int, gNe_int, gAdd_int, gSub_int, gLt_int, gLe_int, gGt_int, gGe_int, gInt_int, gAbs_int, gIx_lst, gIx_tup, gLen_lst, gLen_tup, gLen_dK, gTupleOf_lst, gTupleOf_tup, gListOf_lst, gListOf_tup, set_ap, tg_ap, wipe_nil, wipe_cons, pb_nil, pb_cons, noOwn_ap, noT_none, noT_sh, putC_nil, putC_cons, ioL_nil, ioL_cons, ioLT_slot, ioLT_fresh, argOk_nil, argOk_val, argOk_fresh, argOk_slot, clT0_some, List.all_cons, List.all_nil, Bool.and_true, Bool.true_and, Bool.and_self, Bool.not_false, Bool.not_true, eq_self, if_true, if_false, and_true, true_and, and_self, List.length_cons, List.length_nil, List.mem_cons, List.not_mem_nil, or_false, false_or, true_or, decide_true, decide_false, forall_eq, List.getElem?_cons_zero, List.getElem?_cons_succ, Option.map_some, ty_lst, Nat.zero_add, not_false_eq_true, implies_true, false_implies, Nat.lt_add_one, Nat.zero_lt_succ, Nat.reduceLT, Nat.reduceAdd, Nat.reduceEqDiff, mutT_LN, mtT_LN, mutT_lst, mtT_lst, q6, lw, Sh, hl, q, gNe_rd]
  have s7' : q7 (lw x3 y3 z3 f1 f2 u s5 c6 s7 (Sh (wF u W)) (Sh W.2.1) (Sh W.2.2) c11 c12 a13 a14 a15 none none) = some (.ok .next, lw x3 y3 z3 f1 f2 u s5 c6 s7 (Sh (wF u W)) (Sh 0) (Sh W.2.2) c11 c12 a13 a14 a15 (some (.sh (LI []))) none) := by
    simp only [bT_ok, bT_err, bT_none, bind_ap, pure_ap, of_ap, ofT_some, ofT_none, at0_zero, at0_succ, var_ap, vT_sh, vT_ow, vT_io, cont_ap, cT_ow, cT_io, deref_val, deref_fresh, deref_slot, stab_val, stab_fresh, set0_zero, set0_succ, setC_ap, scT_ow, scT_io, fC_ap, binT_some, binK2_ap, binK1_ap, bin_ap, testT_bl, testK_ap, test_ap, truT_some, truK_ap, truth_ap, andK_t, andK_f, and_ap, orK_f, orK_t, or_ap, notK_ap, not_ap, ifK_t, ifK_f, if_ap, ifS_ap, andVT_t, andVT_f, andVK_ap, andV_ap, orVT_f, orVT_t, orVK_ap, orV_ap, notVT_bl, notVK_ap, notV_ap, chK3_ap, chT0_some, chT_t, chT_f, chK2_ap, chK1_ap, chain_ap, nil_ap, consK2_ap, consK1_ap, cons_ap, cons2_some, stabs_nil, stabs_cons, derefs_nil, derefs_cons, tupK_ap, tup_ap, lstK_ap, lst_ap, tupT_0, tupT_1, tupT_2, tupT_3, lstT_0, lstT_1, lstT_2, lstT_3, cbT_some, cbK_ap, cb_ap, mtT2_some, mtK2_ap, mtK_ap, mt_ap, ty_lst, mutT3_some, mutT2_some, mutK2_ap, mutT0_slot, mut_ap, slT_some, slK3_ap, slK2_ap, slK1_ap, sl_ap, intT_int, partK_ap, part_ap, rg1T_int, rg1K_ap, rg1_ap, rg2T_int, rg2K2_ap, rg2K1_ap, rg2_ap, lrK_ap, listRg_ap, next_ap, seq_ap, sqT_next, sqT_ret, sqT_brk, sqT_cont, sqT_err, dropK_ap, drop_ap, retT_some, retK_ap, ret_ap, retD_val, retD_fresh, owT_ow, retD_slot, io0_n, io0_sh, io0_ow, io0_succ, noIo_ap, asg_nil, asg_cons, asT2_some, asg_valF, asg_freF, asg_freL, asg_freK, asg_freT, parT_some, parK_ap, par_ap, valT_some, valK_ap, val_ap, stT2_some, stT_some, stT0_slot, stK3_ap, stK2_ap, stK1_ap, store_ap, auT3_some, auK3_ap, auT2_some, auT1_some, auT0_slot, auK2_ap, auK1_ap, augS_ap, augT2_int, augK_ap, augT_int, aug_ap, itLT_lst, itLK_ap, itL_ap, itTT_tup, itTK_ap, itT_ap, itR1T_int, itR1K_ap, itR1_ap, itR2T_int, itR2K_ap, itR2_ap, for_ap, lcT_some, lcK_ap, lc_ap, clK_ap, call_ap, clT0_some, clT_ok, clT_err, raise_ap, try_ap, tryT_err, tryT_ok, noErr_ap, neT_ok, share_ap, shT_ow, mkG_ap, enT_ret, enT_next, enT_err, outs_nil, outs_cons, ouT_io, gEq_int, gNe_int, gAdd_int, gSub_int, gLt_int, gLe_int, gGt_int, gGe_int, gInt_int, gAbs_int, gIx_lst, gIx_tup, gLen_lst, gLen_tup, gLen_dK, gTupleOf_lst, gTupleOf_tup, gListOf_lst, gListOf_tup, set_ap, tg_ap, wipe_nil, wipe_cons, pb_nil, pb_cons, noOwn_ap, noT_none, noT_sh, putC_nil, putC_cons, ioL_nil, ioL_cons, ioLT_slot, ioLT_fresh, argOk_nil, argOk_val, argOk_fresh, argOk_slot, clT0_some, List.all_cons, List.all_nil, Bool.and_true, Bool.true_and, Bool.and_self, Bool.not_false, Bool.not_true, eq_self, if_true, if_false, and_true, true_and, and_self, List.length_cons, List.length_nil, List.mem_cons, List.not_mem_nil, or_false, false_or, true_or, decide_true, decide_false, forall_eq, List.getElem?_cons_zero, List.getElem?_cons_succ, Option.map_some, ty_lst, Nat.zero_add, not_false_eq_true, implies_true, false_implies, Nat.lt_add_one, Nat.zero_lt_succ, Nat.reduceLT, Nat.reduceAdd, Nat.reduceEqDiff, mutT_LN, mtT_LN, mutT_lst, mtT_lst, q7, lw, Sh, LI]
    rfl
  obtain ⟨h', d6, d11, d12, e8⟩ := d_loop x3 y3 z3 f1 f2 u s5 s7 (Sh (wF u W)) (Sh W.2.2) a13 a14 a15 none f1 [] 0 c6 c11 c12 (by simp; omega) k6 k11 k12
  rw [List.nil_append] at e8
  have s8 : q8 (lw x3 y3 z3 f1 f2 u s5 c6 s7 (Sh (wF u W)) (Sh 0) (Sh W.2.2) c11 c12 a13 a14 a15 (some (.sh (LI []))) none) = some (.ok .next, lw x3 y3 z3 f1 f2 u s5 d6 s7 (Sh (wF u W)) (Sh h') (Sh W.2.2) d11 d12 a13 a14 a15 (some (.sh (LI (dueL 0 f1)))) none) := e8
  have hdl : (dueL 0 f1).length ≤ 8 := by
    have := dueL_len f1 0
    omega
  obtain ⟨s17, h17, e9⟩ := u_run x3 y3 z3 f1 f2 u s5 d6 s7 (Sh (wF u W)) (Sh h') (Sh W.2.2) d11 d12 a13 a14 a15 (dueL 0 f1) (by omega)
  have s9 : q9 (lw x3 y3 z3 f1 f2 u s5 d6 s7 (Sh (wF u W)) (Sh h') (Sh W.2.2) d11 d12 a13 a14 a15 (some (.sh (LI (dueL 0 f1)))) none) = some (.ok .next, lw x3 y3 z3 f1 f2 u s5 d6 s7 (Sh (wF u W)) (Sh h') (Sh W.2.2) d11 d12 a13 a14 a15 (some (.sh (LI (dueL 0 f1)))) none) := by
    have hc := changes_run (fs := f1) l1
    have e9' := e9
    unfold lw at e9'
    have hlo : ∀ l : List D, gListOf [.tup l] = some (.fresh (.lst l)) := fun _ => rfl
    simp only [bT_ok, bT_err, bT_none, bind_ap, pure_ap, of_ap, ofT_some, ofT_none, at0_zero, at0_succ, var_ap, vT_sh, vT_ow, vT_io, cont_ap, cT_ow, cT_io, deref_val, deref_fresh, deref_slot, stab_val, stab_fresh, set0_zero, set0_succ, setC_ap, scT_ow, scT_io, fC_ap, binT_some, binK2_ap, binK1_ap, bin_ap, testT_bl, testK_ap, test_ap, truT_some, truK_ap, truth_ap, andK_t, andK_f, and_ap, orK_f, orK_t, or_ap, notK_ap, not_ap, ifK_t, ifK_f, if_ap, ifS_ap, andVT_t, andVT_f, andVK_ap, andV_ap, orVT_f, orVT_t, orVK_ap, orV_ap, notVT_bl, notVK_ap, notV_ap, chK3_ap, chT0_some, chT_t, chT_f, chK2_ap, chK1_ap, chain_ap, nil_ap, consK2_ap, consK1_ap, cons_ap, cons2_some, stabs_nil, stabs_cons, derefs_nil, derefs_cons, tupK_ap, tup_ap, lstK_ap, lst_ap, tupT_0, tupT_1, tupT_2, tupT_3, lstT_0, lstT_1, lstT_2, lstT_3, cbT_some, cbK_ap, cb_ap, mtT2_some, mtK2_ap, mtK_ap, mt_ap, ty_lst, mutT3_some, mutT2_some, mutK2_ap, mutT0_slot, mut_ap, slT_some, slK3_ap, slK2_ap, slK1_ap, sl_ap, intT_int, partK_ap, part_ap, rg1T_int, rg1K_ap, rg1_ap, rg2T_int, rg2K2_ap, rg2K1_ap, rg2_ap, lrK_ap, listRg_ap, next_ap, seq_ap, sqT_next, sqT_ret, sqT_brk, sqT_cont, sqT_err, dropK_ap, drop_ap, retT_some, retK_ap, ret_ap, retD_val, retD_fresh, owT_ow, retD_slot, io0_n, io0_sh, io0_ow, io0_succ, noIo_ap, asg_nil, asg_cons, asT2_some, asg_valF, asg_freF, asg_freL, asg_freK, asg_freT, parT_some, parK_ap, par_ap, valT_some, valK_ap, val_ap, stT2_some, stT_some, stT0_slot, stK3_ap, stK2_ap, stK1_ap, store_ap, auT3_some, auK3_ap, auT2_some, auT1_some, auT0_slot, auK2_ap, auK1_ap, augS_ap, augT2_int, augK_ap, augT_int, aug_ap, itLT_lst, itLK_ap, itL_ap, itTT_tup, itTK_ap, itT_ap, itR1T_int, itR1K_ap, itR1_ap, itR2T_int, itR2K_ap, itR2_ap, for_ap, lcT_some, lcK_ap, lc_ap, clK_ap, call_ap, clT0_some, clT_ok, clT_err, raise_ap, try_ap, tryT_err, tryT_ok, noErr_ap, neT_ok, share_ap, shT_ow, mkG_ap, enT_ret, enT_next, enT_err, outs_nil, outs_cons, ouT_io, gEq_int, gNe_int, gAdd_int, gSub_int, gLt_int, gLe_int, gGt_int, gGe_int, gInt_int, gAbs_int, gIx_lst, gIx_tup, gLen_lst, gLen_tup, gLen_dK, gTupleOf_lst, gTupleOf_tup, gListOf_lst, gListOf_tup, set_ap, tg_ap, wipe_nil, wipe_cons, pb_nil, pb_cons, noOwn_ap, noT_none, noT_sh, putC_nil, putC_cons, ioL_nil, ioL_cons, ioLT_slot, ioLT_fresh, argOk_nil, argOk_val, argOk_fresh, argOk_slot, clT0_some, List.all_cons, List.all_nil, Bool.and_true, Bool.true_and, Bool.and_self, Bool.not_false, Bool.not_true, eq_self, if_true, if_false, and_true, true_and, and_self, List.length_cons, List.length_nil, List.mem_cons, List.not_mem_nil, or_false, false_or, true_or, decide_true, decide_false, forall_eq, List.getElem?_cons_zero, List.getElem?_cons_succ, Option.map_some, ty_lst, Nat.zero_add, not_false_eq_true, implies_true, false_implies, Nat.lt_add_one, Nat.zero_lt_succ, Nat.reduceLT, Nat.reduceAdd, Nat.reduceEqDiff, mutT_LN, mtT_LN, mutT_lst, mtT_lst, q9, lw, hc, hlo, gLen_LI, itR1_iN _ (show (dueL 0 f1).length ≤ 1000 by omega), e9', gSortedI_I, gNe_L]
  have hb1 : b1 (lw x3 y3 z3 f1 f2 u s5 d6 s7 (Sh (wF u W)) (Sh h') (Sh W.2.2) d11 d12 a13 a14 a15 (some (.sh (LI (dueL 0 f1)))) none) = some (.error ("BadTable", none), lw x3 y3 z3 f1 f2 u s5 d6 s7 (Sh (wF u W)) (Sh h') (Sh W.2.2) d11 d12 a13 a14 a15 (some (.sh (LI (dueL 0 f1)))) none) := by
    simp only [bT_ok, bT_err, bT_none, bind_ap, pure_ap, of_ap, ofT_some, ofT_none, at0_zero, at0_succ, var_ap, vT_sh, vT_ow, vT_io, cont_ap, cT_ow, cT_io, deref_val, deref_fresh, deref_slot, stab_val, stab_fresh, set0_zero, set0_succ, setC_ap, scT_ow, scT_io, fC_ap, binT_some, binK2_ap, binK1_ap, bin_ap, testT_bl, testK_ap, test_ap, truT_some, truK_ap, truth_ap, andK_t, andK_f, and_ap, orK_f, orK_t, or_ap, notK_ap, not_ap, ifK_t, ifK_f, if_ap, ifS_ap, andVT_t, andVT_f, andVK_ap, andV_ap, orVT_f, orVT_t, orVK_ap, orV_ap, notVT_bl, notVK_ap, notV_ap, chK3_ap, chT0_some, chT_t, chT_f, chK2_ap, chK1_ap, chain_ap, nil_ap, consK2_ap, consK1_ap, cons_ap, cons2_some, stabs_nil, stabs_cons, derefs_nil, derefs_cons, tupK_ap, tup_ap, lstK_ap, lst_ap, tupT_0, tupT_1, tupT_2, tupT_3, lstT_0, lstT_1, lstT_2, lstT_3, cbT_some, cbK_ap, cb_ap, mtT2_some, mtK2_ap, mtK_ap, mt_ap, ty_lst, mutT3_some, mutT2_some, mutK2_ap, mutT0_slot, mut_ap, slT_some, slK3_ap, slK2_ap, slK1_ap, sl_ap, intT_int, partK_ap, part_ap, rg1T_int, rg1K_ap, rg1_ap, rg2T_int, rg2K2_ap, rg2K1_ap, rg2_ap, lrK_ap, listRg_ap, next_ap, seq_ap, sqT_next, sqT_ret, sqT_brk, sqT_cont, sqT_err, dropK_ap, drop_ap, retT_some, retK_ap, ret_ap, retD_val, retD_fresh, owT_ow, retD_slot, io0_n, io0_sh, io0_ow, io0_succ, noIo_ap, asg_nil, asg_cons, asT2_some, asg_valF, asg_freF, asg_freL, asg_freK, asg_freT, parT_some, parK_ap, par_ap, valT_some, valK_ap, val_ap, stT2_some, stT_some, stT0_slot, stK3_ap, stK2_ap, stK1_ap, store_ap, auT3_some, auK3_ap, auT2_some, auT1_some, auT0_slot, auK2_ap, auK1_ap, augS_ap, augT2_int, augK_ap, augT_int, aug_ap, itLT_lst, itLK_ap, itL_ap, itTT_tup, itTK_ap, itT_ap, itR1T_int, itR1K_ap, itR1_ap, itR2T_int, itR2K_ap, itR2_ap, for_ap, lcT_some, lcK_ap, lc_ap, clK_ap, call_ap, clT0_some, clT_ok, clT_err, raise_ap, try_ap, tryT_err, tryT_ok, noErr_ap, neT_ok, share_ap, shT_ow, mkG_ap, enT_ret, enT_next, enT_err, outs_nil, outs_cons, ouT_io, gEq_int, gNe_int, gAdd_int, gSub_int, gLt_int, gLe_int, gGt_int, gGe_int, gInt_int, gAbs_int, gIx_lst, gIx_tup, gLen_lst, gLen_tup, gLen_dK, gTupleOf_lst, gTupleOf_tup, gListOf_lst, gListOf_tup, set_ap, tg_ap, wipe_nil, wipe_cons, pb_nil, pb_cons, noOwn_ap, noT_none, noT_sh, putC_nil, putC_cons, ioL_nil, ioL_cons, ioLT_slot, ioLT_fresh, argOk_nil, argOk_val, argOk_fresh, argOk_slot, clT0_some, List.all_cons, List.all_nil, Bool.and_true, Bool.true_and, Bool.and_self, Bool.not_false, Bool.not_true, eq_self, if_true, if_false, and_true, true_and, and_self, List.length_cons, List.length_nil, List.mem_cons, List.not_mem_nil, or_false, false_or, true_or, decide_true, decide_false, forall_eq, List.getElem?_cons_zero, List.getElem?_cons_succ, Option.map_some, ty_lst, Nat.zero_add, not_false_eq_true, implies_true, false_implies, Nat.lt_add_one, Nat.zero_lt_succ, Nat.reduceLT, Nat.reduceAdd, Nat.reduceEqDiff, mutT_LN, mtT_LN, mutT_lst, mtT_lst, b1, bad1]
  have hb2 : b2 (lw x3 y3 z3 f1 f2 u s5 d6 s7 (Sh (wF u W)) (Sh h') (Sh W.2.2) d11 d12 a13 a14 a15 (some (.sh (LI (dueL 0 f1)))) none) = some (.error ("BadTable", none), lw x3 y3 z3 f1 f2 u s5 d6 s7 (Sh (wF u W)) (Sh h') (Sh W.2.2) d11 d12 a13 a14 a15 (some (.sh (LI (dueL 0 f1)))) none) := by
    simp only [bT_ok, bT_err, bT_none, bind_ap, pure_ap, of_ap, ofT_some, ofT_none, at0_zero, at0_succ, var_ap, vT_sh, vT_ow, vT_io, cont_ap, cT_ow, cT_io, deref_val, deref_fresh, deref_slot, stab_val, stab_fresh, set0_zero, set0_succ, setC_ap, scT_ow, scT_io, fC_ap, binT_some, binK2_ap, binK1_ap, bin_ap, testT_bl, testK_ap, test_ap, truT_some, truK_ap, truth_ap, andK_t, andK_f, and_ap, orK_f, orK_t, or_ap, notK_ap, not_ap, ifK_t, ifK_f, if_ap, ifS_ap, andVT_t, andVT_f, andVK_ap, andV_ap, orVT_f, orVT_t, orVK_ap, orV_ap, notVT_bl, notVK_ap, notV_ap, chK3_ap, chT0_some, chT_t, chT_f, chK2_ap, chK1_ap, chain_ap, nil_ap, consK2_ap, consK1_ap, cons_ap, cons2_some, stabs_nil, stabs_cons, derefs_nil, derefs_cons, tupK_ap, tup_ap, lstK_ap, lst_ap, tupT_0, tupT_1, tupT_2, tupT_3, lstT_0, lstT_1, lstT_2, lstT_3, cbT_some, cbK_ap, cb_ap, mtT2_some, mtK2_ap, mtK_ap, mt_ap, ty_lst, mutT3_some, mutT2_some, mutK2_ap, mutT0_slot, mut_ap, slT_some, slK3_ap, slK2_ap, slK1_ap, sl_ap, intT_int, partK_ap, part_ap, rg1T_int, rg1K_ap, rg1_ap, rg2T_int, rg2K2_ap, rg2K1_ap, rg2_ap, lrK_ap, listRg_ap, next_ap, seq_ap, sqT_next, sqT_ret, sqT_brk, sqT_cont, sqT_err, dropK_ap, drop_ap, retT_some, retK_ap, ret_ap, retD_val, retD_fresh, owT_ow, retD_slot, io0_n, io0_sh, io0_ow, io0_succ, noIo_ap, asg_nil, asg_cons, asT2_some, asg_valF, asg_freF, asg_freL, asg_freK, asg_freT, parT_some, parK_ap, par_ap, valT_some, valK_ap, val_ap, stT2_some, stT_some, stT0_slot, stK3_ap, stK2_ap, stK1_ap, store_ap, auT3_some, auK3_ap, auT2_some, auT1_some, auT0_slot, auK2_ap, auK1_ap, augS_ap, augT2_int, augK_ap, augT_int, aug_ap, itLT_lst, itLK_ap, itL_ap, itTT_tup, itTK_ap, itT_ap, itR1T_int, itR1K_ap, itR1_ap, itR2T_int, itR2K_ap, itR2_ap, for_ap, lcT_some, lcK_ap, lc_ap, clK_ap, call_ap, clT0_some, clT_ok, clT_err, raise_ap, try_ap, tryT_err, tryT_ok, noErr_ap, neT_ok, share_ap, shT_ow, mkG_ap, enT_ret, enT_next, enT_err, outs_nil, outs_cons, ouT_io, gEq_int, gNe_int, gAdd_int, gSub_int, gLt_int, gLe_int, gGt_int, gGe_int, gInt_int, gAbs_int, gIx_lst, gIx_tup, gLen_lst, gLen_tup, gLen_dK, gTupleOf_lst, gTupleOf_tup, gListOf_lst, gListOf_tup, set_ap, tg_ap, wipe_nil, wipe_cons, pb_nil, pb_cons, noOwn_ap, noT_none, noT_sh, putC_nil, putC_cons, ioL_nil, ioL_cons, ioLT_slot, ioLT_fresh, argOk_nil, argOk_val, argOk_fresh, argOk_slot, clT0_some, List.all_cons, List.all_nil, Bool.and_true, Bool.true_and, Bool.and_self, Bool.not_false, Bool.not_true, eq_self, if_true, if_false, and_true, true_and, and_self, List.length_cons, List.length_nil, List.mem_cons, List.not_mem_nil, or_false, false_or, true_or, decide_true, decide_false, forall_eq, List.getElem?_cons_zero, List.getElem?_cons_succ, Option.map_some, ty_lst, Nat.zero_add, not_false_eq_true, implies_true, false_implies, Nat.lt_add_one, Nat.zero_lt_succ, Nat.reduceLT, Nat.reduceAdd, Nat.reduceEqDiff, mutT_LN, mtT_LN, mutT_lst, mtT_lst, b2, bad2]
  have s10 : q10 (lw x3 y3 z3 f1 f2 u s5 d6 s7 (Sh (wF u W)) (Sh h') (Sh W.2.2) d11 d12 a13 a14 a15 (some (.sh (LI (dueL 0 f1)))) none) = some (.ok .next, lw x3 y3 z3 f1 f2 u s5 d6 s7 (Sh (wF u W)) (Sh h') (Sh W.2.2) d11 d12 a13 a14 a15 (some (.sh (LI (dueL 0 f1)))) none) := by
    simp only [bT_ok, bT_err, bT_none, bind_ap, pure_ap, of_ap, ofT_some, ofT_none, at0_zero, at0_succ, var_ap, vT_sh, vT_ow, vT_io, cont_ap, cT_ow, cT_io, deref_val, deref_fresh, deref_slot, stab_val, stab_fresh, set0_zero, set0_succ, setC_ap, scT_ow, scT_io, fC_ap, binT_some, binK2_ap, binK1_ap, bin_ap, testT_bl, testK_ap, test_ap, truT_some, truK_ap, truth_ap, andK_t, andK_f, and_ap, orK_f, orK_t, or_ap, notK_ap, not_ap, ifK_t, ifK_f, if_ap, ifS_ap, andVT_t, andVT_f, andVK_ap, andV_ap, orVT_f, orVT_t, orVK_ap, orV_ap, notVT_bl, notVK_ap, notV_ap, chK3_ap, chT0_some, chT_t, chT_f, chK2_ap, chK1_ap, chain_ap, nil_ap, consK2_ap, consK1_ap, cons_ap, cons2_some, stabs_nil, stabs_cons, derefs_nil, derefs_cons, tupK_ap, tup_ap, lstK_ap, lst_ap, tupT_0, tupT_1, tupT_2, tupT_3, lstT_0, lstT_1, lstT_2, lstT_3, cbT_some, cbK_ap, cb_ap, mtT2_some, mtK2_ap, mtK_ap, mt_ap, ty_lst, mutT3_some, mutT2_some, mutK2_ap, mutT0_slot, mut_ap, slT_some, slK3_ap, slK2_ap, slK1_ap, sl_ap, intT_int, partK_ap, part_ap, rg1T_int, rg1K_ap, rg1_ap, rg2T_int, rg2K2_ap, rg2K1_ap, rg2_ap, lrK_ap, listRg_ap, next_ap, seq_ap, sqT_next, sqT_ret, sqT_brk, sqT_cont, sqT_err, dropK_ap, drop_ap, retT_some, retK_ap, ret_ap, retD_val, retD_fresh, owT_ow, retD_slot, io0_n, io0_sh, io0_ow, io0_succ, noIo_ap, asg_nil, asg_cons, asT2_some, asg_valF, asg_freF, asg_freL, asg_freK, asg_freT, parT_some, parK_ap, par_ap, valT_some, valK_ap, val_ap, stT2_some, stT_some, stT0_slot, stK3_ap, stK2_ap, stK1_ap, store_ap, auT3_some, auK3_ap, auT2_some, auT1_some, auT0_slot, auK2_ap, auK1_ap, augS_ap, augT2_int, augK_ap, augT_int, aug_ap, itLT_lst, itLK_ap, itL_ap, itTT_tup, itTK_ap, itT_ap, itR1T_int, itR1K_ap, itR1_ap, itR2T_int, itR2K_ap, itR2_ap, for_ap, lcT_some, lcK_ap, lc_ap, clK_ap, call_ap, clT0_some, clT_ok, clT_err, raise_ap, try_ap, tryT_err, tryT_ok, noErr_ap, neT_ok, share_ap, shT_ow, mkG_ap, enT_ret, enT_next, enT_err, outs_nil, outs_cons, ouT_io, gEq_int, gNe_int, gAdd_int, gSub_int, gLt_int, gLe_int, gGt_int, gGe_int, gInt_int, gAbs_int, gIx_lst, gIx_tup, gLen_lst, gLen_tup, gLen_dK, gTupleOf_lst, gTupleOf_tup, gListOf_lst, gListOf_tup, set_ap, tg_ap, wipe_nil, wipe_cons, pb_nil, pb_cons, noOwn_ap, noT_none, noT_sh, putC_nil, putC_cons, ioL_nil, ioL_cons, ioLT_slot, ioLT_fresh, argOk_nil, argOk_val, argOk_fresh, argOk_slot, clT0_some, List.all_cons, List.all_nil, Bool.and_true, Bool.true_and, Bool.and_self, Bool.not_false, Bool.not_true, eq_self, if_true, if_false, and_true, true_and, and_self, List.length_cons, List.length_nil, List.mem_cons, List.not_mem_nil, or_false, false_or, true_or, decide_true, decide_false, forall_eq, List.getElem?_cons_zero, List.getElem?_cons_succ, Option.map_some, ty_lst, Nat.zero_add, not_false_eq_true, implies_true, false_implies, Nat.lt_add_one, Nat.zero_lt_succ, Nat.reduceLT, Nat.reduceAdd, Nat.reduceEqDiff, mutT_LN, mtT_LN, mutT_lst, mtT_lst, q10, told_err hb1 told_at, gNe_str]
  have s11 : q11 (lw x3 y3 z3 f1 f2 u s5 d6 s7 (Sh (wF u W)) (Sh h') (Sh W.2.2) d11 d12 a13 a14 a15 (some (.sh (LI (dueL 0 f1)))) none) = some (.ok .next, lw x3 y3 z3 f1 f2 u s5 d6 s7 (Sh (wF u W)) (Sh h') (Sh W.2.2) d11 d12 a13 a14 a15 (some (.sh (LI (dueL 0 f1)))) none) := by
    simp only [bT_ok, bT_err, bT_none, bind_ap, pure_ap, of_ap, ofT_some, ofT_none, at0_zero, at0_succ, var_ap, vT_sh, vT_ow, vT_io, cont_ap, cT_ow, cT_io, deref_val, deref_fresh, deref_slot, stab_val, stab_fresh, set0_zero, set0_succ, setC_ap, scT_ow, scT_io, fC_ap, binT_some, binK2_ap, binK1_ap, bin_ap, testT_bl, testK_ap, test_ap, truT_some, truK_ap, truth_ap, andK_t, andK_f, and_ap, orK_f, orK_t, or_ap, notK_ap, not_ap, ifK_t, ifK_f, if_ap, ifS_ap, andVT_t, andVT_f, andVK_ap, andV_ap, orVT_f, orVT_t, orVK_ap, orV_ap, notVT_bl, notVK_ap, notV_ap, chK3_ap, chT0_some, chT_t, chT_f, chK2_ap, chK1_ap, chain_ap, nil_ap, consK2_ap, consK1_ap, cons_ap, cons2_some, stabs_nil, stabs_cons, derefs_nil, derefs_cons, tupK_ap, tup_ap, lstK_ap, lst_ap, tupT_0, tupT_1, tupT_2, tupT_3, lstT_0, lstT_1, lstT_2, lstT_3, cbT_some, cbK_ap, cb_ap, mtT2_some, mtK2_ap, mtK_ap, mt_ap, ty_lst, mutT3_some, mutT2_some, mutK2_ap, mutT0_slot, mut_ap, slT_some, slK3_ap, slK2_ap, slK1_ap, sl_ap, intT_int, partK_ap, part_ap, rg1T_int, rg1K_ap, rg1_ap, rg2T_int, rg2K2_ap, rg2K1_ap, rg2_ap, lrK_ap, listRg_ap, next_ap, seq_ap, sqT_next, sqT_ret, sqT_brk, sqT_cont, sqT_err, dropK_ap, drop_ap, retT_some, retK_ap, ret_ap, retD_val, retD_fresh, owT_ow, retD_slot, io0_n, io0_sh, io0_ow, io0_succ, noIo_ap, asg_nil, asg_cons, asT2_some, asg_valF, asg_freF, asg_freL, asg_freK, asg_freT, parT_some, parK_ap, par_ap, valT_some, valK_ap, val_ap, stT2_some, stT_some, stT0_slot, stK3_ap, stK2_ap, stK1_ap, store_ap, auT3_some, auK3_ap, auT2_some, auT1_some, auT0_slot, auK2_ap, auK1_ap, augS_ap, augT2_int, augK_ap, augT_int, aug_ap, itLT_lst, itLK_ap, itL_ap, itTT_tup, itTK_ap, itT_ap, itR1T_int, itR1K_ap, itR1_ap, itR2T_int, itR2K_ap, itR2_ap, for_ap, lcT_some, lcK_ap, lc_ap, clK_ap, call_ap, clT0_some, clT_ok, clT_err, raise_ap, try_ap, tryT_err, tryT_ok, noErr_ap, neT_ok, share_ap, shT_ow, mkG_ap, enT_ret, enT_next, enT_err, outs_nil, outs_cons, ouT_io, gEq_int, gNe_int, gAdd_int, gSub_int, gLt_int, gLe_int, gGt_int, gGe_int, gInt_int, gAbs_int, gIx_lst, gIx_tup, gLen_lst, gLen_tup, gLen_dK, gTupleOf_lst, gTupleOf_tup, gListOf_lst, gListOf_tup, set_ap, tg_ap, wipe_nil, wipe_cons, pb_nil, pb_cons, noOwn_ap, noT_none, noT_sh, putC_nil, putC_cons, ioL_nil, ioL_cons, ioLT_slot, ioLT_fresh, argOk_nil, argOk_val, argOk_fresh, argOk_slot, clT0_some, List.all_cons, List.all_nil, Bool.and_true, Bool.true_and, Bool.and_self, Bool.not_false, Bool.not_true, eq_self, if_true, if_false, and_true, true_and, and_self, List.length_cons, List.length_nil, List.mem_cons, List.not_mem_nil, or_false, false_or, true_or, decide_true, decide_false, forall_eq, List.getElem?_cons_zero, List.getElem?_cons_succ, Option.map_some, ty_lst, Nat.zero_add, not_false_eq_true, implies_true, false_implies, Nat.lt_add_one, Nat.zero_lt_succ, Nat.reduceLT, Nat.reduceAdd, Nat.reduceEqDiff, mutT_LN, mtT_LN, mutT_lst, mtT_lst, q11, told_err hb2 told_at, gNe_str]
  refine ⟨lw x3 y3 z3 f1 f2 u s5 d6 s7 (Sh (wF u W)) (Sh h') (Sh W.2.2) d11 d12 a13 a14 a15 (some (.sh (LI (dueL 0 f1)))) none, ?_, rfl⟩
  rw [d_law_eq, seq_ap, s1, sqT_next, seq_ap, s2, sqT_next, seq_ap, s3, sqT_next, seq_ap, s4, sqT_next, seq_ap, s5', sqT_next, seq_ap, s6', sqT_next, seq_ap, s7', sqT_next, seq_ap, s8, sqT_next, seq_ap, s9, sqT_next, seq_ap, s10, sqT_next, s11]
end
theorem plain_law (x y z : Int) : ∃ ρ', d_law (startLaw 18 x y z) = some (.ok .next, ρ') ∧ ρ'.length = 18 := @law_run ⟨[], []⟩ x y z
end K15

open PySem PySem.W PyProof.Rows
set_option maxRecDepth 100000 in
set_option maxHeartbeats 0 in
theorem PySem.Challenge.cw_theatre_k15_lights_that_fade_holds : PySem.Challenge.rw_theatre_k15_lights_that_fade.Holds := by
  w_on; o_law; k_head; (case hw => w_witness2)
  k_fill
  refine K15.walk (l := PySem.Challenge.rw_theatre_k15_lights_that_fade) rfl rfl (by first | rfl | decide +kernel) (fun w h Y => PySem.W.km_in_of Y) ?F
  case F =>
    intro w mg fa h KX G hmg HT
    refine' K15.all_mk KX G hmg ?A_part ?L_part ?C_part ?K_part ?A_check_fades ?L_check_fades ?C_check_fades ?K_check_fades ?A_level_at ?L_level_at ?C_level_at ?K_level_at ?A_highest ?L_highest ?C_highest ?K_highest ?A_light ?L_light ?C_light ?K_light ?A_changes ?L_changes ?C_changes ?K_changes ?A_law_dice ?L_law_dice ?C_law_dice ?K_law_dice ?A_law_roll ?L_law_roll ?C_law_roll ?K_law_roll ?A_law_rounds ?L_law_rounds ?C_law_rounds ?K_law_rounds ?A_law_told ?L_law_told ?C_law_told ?K_law_told ?A_law_fades ?L_law_fades ?C_law_fades ?K_law_fades ?A_law_level ?L_law_level ?C_law_level ?K_law_level ?A_law ?L_law ?C_law ?K_law ?M_law ?V_law ?N_law ?A_BadPaper ?B_BadPaper ?T_BadPaper ?I_BadPaper ?A_BadTable ?X_BadTable ?K_BadTable ?B_BadTable ?T_BadTable ?I_BadTable ?S_BadTable ?A_NoWay ?B_NoWay ?T_NoWay ?I_NoWay ?S_BadTable_NoWay ?S_BadTable_BadPaper ?Z_abs ?Z_enumerate ?Z_int ?Z_len ?Z_list ?Z_max ?Z_min ?Z_range ?Z_sorted ?Z_tuple HT K15.plain_law
    (case A_part => k_is)
    (case L_part => k_is)
    (case C_part => k_is)
    (case K_part => k_is)
    (case A_check_fades => k_is)
    (case L_check_fades => k_is)
    (case C_check_fades => k_is)
    (case K_check_fades => k_is)
    (case A_level_at => k_is)
    (case L_level_at => k_is)
    (case C_level_at => k_is)
    (case K_level_at => k_is)
    (case A_highest => k_is)
    (case L_highest => k_is)
    (case C_highest => k_is)
    (case K_highest => k_is)
    (case A_light => k_is)
    (case L_light => k_is)
    (case C_light => k_is)
    (case K_light => k_is)
    (case A_changes => k_is)
    (case L_changes => k_is)
    (case C_changes => k_is)
    (case K_changes => k_is)
    (case A_law_dice => k_is)
    (case L_law_dice => k_is)
    (case C_law_dice => k_is)
    (case K_law_dice => k_is)
    (case A_law_roll => k_is)
    (case L_law_roll => k_is)
    (case C_law_roll => k_is)
    (case K_law_roll => k_is)
    (case A_law_rounds => k_is)
    (case L_law_rounds => k_is)
    (case C_law_rounds => k_is)
    (case K_law_rounds => k_is)
    (case A_law_told => k_is)
    (case L_law_told => k_is)
    (case C_law_told => k_is)
    (case K_law_told => k_is)
    (case A_law_fades => k_is)
    (case L_law_fades => k_is)
    (case C_law_fades => k_is)
    (case K_law_fades => k_is)
    (case A_law_level => k_is)
    (case L_law_level => k_is)
    (case C_law_level => k_is)
    (case K_law_level => k_is)
    (case A_law => k_is)
    (case L_law => k_is)
    (case C_law => k_is)
    (case K_law => k_is)
    (case M_law => k_is)
    (case V_law => rfl)
    (case N_law => first | k_is | rfl | decide +kernel)
    (case A_BadPaper => k_is)
    (case B_BadPaper => k_is)
    (case T_BadPaper => k_is)
    (case I_BadPaper => k_is)
    (case A_BadTable => k_is)
    (case X_BadTable => k_exc)
    (case K_BadTable => k_is)
    (case B_BadTable => k_is)
    (case T_BadTable => k_is)
    (case I_BadTable => k_is)
    (case S_BadTable => first | rfl | k_is)
    (case A_NoWay => k_is)
    (case B_NoWay => k_is)
    (case T_NoWay => k_is)
    (case I_NoWay => k_is)
    (case S_BadTable_NoWay => first | rfl | k_is)
    (case S_BadTable_BadPaper => first | rfl | k_is)
    (case Z_abs => k_is)
    (case Z_enumerate => k_is)
    (case Z_int => k_is)
    (case Z_len => k_is)
    (case Z_list => k_is)
    (case Z_max => k_is)
    (case Z_min => k_is)
    (case Z_range => k_is)
    (case Z_sorted => k_is)
    (case Z_tuple => k_is)
#print axioms PySem.Challenge.cw_theatre_k15_lights_that_fade_holds
