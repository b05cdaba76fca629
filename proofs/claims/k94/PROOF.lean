import PyProof.Rows.All
import Wide.All
import OpenK.AllK
import Wide.FinOn
import HandS.ForMost
import HandS.IsInst
import HandS.TupAny
import HandS.TupMul
import HandS.Deep
import HandS.TupLen
import HandS.StrMore
import HandS.Zip
import HandS.Style
import HandS.Flt
import KE.DataMinMax
import KE.DataEq
import HandS.Iter
import HandS.Conv
import HandS.SortInts
import HandS.TupSets
import PyProof.Rows.IntBool
import PySem.Challenge.RW_nearcells_k94_any_value_as_cuts_letter_s
set_option Elab.async false
set_option linter.all false
set_option maxRecDepth 100000
/-! Pu: a pure reading of Python defs over data (PyData), with owned containers and one pot; its soundness over HandS. -/
namespace Pu
open PySem PySem.Spec PyProof.Rows L2

abbrev Fg := PySem.W.Frag
abbrev Pred := Addr → Prop

/-- a tuple that the top has written -/
def KT (K : Fg) (a : Addr) (vs : List V) : Prop :=
  ∃ (o : Obj) (its : Array Value) (n : Nat), K.lookup a = some o ∧ o.cls = .type "tuple" ∧ o.data = .seq its n ∧ its.size ≤ sizeLine ∧ Vals vs its.toList

def kD : Key → PyData
  | .inl i => .int i
  | .inr s => .str s

mutual
/-- v is the datum d, no object of O is met on the way -/
def RD (K : Fg) (O : Pred) (H : Hp) : PyData → V → Prop
  | .none, v => v = .non
  | .bool b, v => v = .bl b
  | .int i, v => v = .int i
  | .str s, v => v = .str s
  | .list ds, v => ∃ a vs, v = .ref a ∧ ¬ O a ∧ H a = some (.lst vs) ∧ RDs K O H ds vs
  | .tuple ds, v => ∃ a vs, v = .ref a ∧ ((¬ O a ∧ H a = some (.tup vs)) ∨ KT K a vs) ∧ RDs K O H ds vs
  | .dict kvs, v => ∃ a, v = .ref a ∧ ¬ O a ∧
      ((∃ kv : List (Key × V), H a = some (.dK kv) ∧ kvs.map (·.1) = kv.map (fun p => kD p.1) ∧ RDk K O H kvs (kv.map (·.2))) ∨
       (∃ kv : List (List Key × V), H a = some (.dT kv) ∧ kvs.map (·.1) = kv.map (fun p => PyData.tuple (p.1.map kD)) ∧ RDk K O H kvs (kv.map (·.2))))
def RDs (K : Fg) (O : Pred) (H : Hp) : List PyData → List V → Prop
  | [], vs => vs = []
  | d :: ds, vs => ∃ v r, vs = v :: r ∧ RD K O H d v ∧ RDs K O H ds r
def RDk (K : Fg) (O : Pred) (H : Hp) : List (PyData × PyData) → List V → Prop
  | [], vs => vs = []
  | (_, d) :: ds, vs => ∃ v r, vs = v :: r ∧ RD K O H d v ∧ RDk K O H ds r
end

section
variable {K : Fg} {O O' : Pred} {H H' : Hp}
mutual
theorem RD.map (h : ∀ b x, ¬ O b → H b = some x → ¬ O' b ∧ H' b = some x) : ∀ {d : PyData} {v : V}, RD K O H d v → RD K O' H' d v
  | .none, _, r => by simpa only [RD] using r
  | .bool _, _, r => by simpa only [RD] using r
  | .int _, _, r => by simpa only [RD] using r
  | .str _, _, r => by simpa only [RD] using r
  | .list ds, v, r => by
    simp only [RD] at r ⊢
    obtain ⟨a, vs, e, n, ha, hs⟩ := r
    exact ⟨a, vs, e, (h _ _ n ha).1, (h _ _ n ha).2, RDs.map h hs⟩
  | .tuple ds, v, r => by
    simp only [RD] at r ⊢
    obtain ⟨a, vs, e, q, hs⟩ := r
    refine ⟨a, vs, e, ?_, RDs.map h hs⟩
    rcases q with ⟨n, ha⟩ | k
    · exact .inl (h _ _ n ha)
    · exact .inr k
  | .dict kvs, v, r => by
    simp only [RD] at r ⊢
    obtain ⟨a, e, n, q⟩ := r
    rcases q with ⟨kv, ha, ek, hs⟩ | ⟨kv, ha, ek, hs⟩
    · exact ⟨a, e, (h _ _ n ha).1, .inl ⟨kv, (h _ _ n ha).2, ek, RDk.map h hs⟩⟩
    · exact ⟨a, e, (h _ _ n ha).1, .inr ⟨kv, (h _ _ n ha).2, ek, RDk.map h hs⟩⟩
theorem RDs.map (h : ∀ b x, ¬ O b → H b = some x → ¬ O' b ∧ H' b = some x) : ∀ {ds : List PyData} {vs : List V}, RDs K O H ds vs → RDs K O' H' ds vs
  | [], _, r => by simpa only [RDs] using r
  | d :: ds, _, r => by
    simp only [RDs] at r ⊢
    obtain ⟨v, t, e, h1, h2⟩ := r
    exact ⟨v, t, e, RD.map h h1, RDs.map h h2⟩
theorem RDk.map (h : ∀ b x, ¬ O b → H b = some x → ¬ O' b ∧ H' b = some x) : ∀ {ds : List (PyData × PyData)} {vs : List V}, RDk K O H ds vs → RDk K O' H' ds vs
  | [], _, r => by simpa only [RDk] using r
  | (k, d) :: ds, _, r => by
    simp only [RDk] at r ⊢
    obtain ⟨v, t, e, h1, h2⟩ := r
    exact ⟨v, t, e, RD.map h h1, RDk.map h h2⟩
end

/-- what stands in the container c at a -/
def RC (K : Fg) (O : Pred) (H : Hp) (c : PyData) (a : Addr) : Prop := match c with
  | .list ds => ∃ vs, H a = some (.lst vs) ∧ RDs K O H ds vs
  | .dict kvs => (∃ kv : List (Key × V), H a = some (.dK kv) ∧ kvs.map (·.1) = kv.map (fun p => kD p.1) ∧ RDk K O H kvs (kv.map (·.2))) ∨
       (∃ kv : List (List Key × V), H a = some (.dT kv) ∧ kvs.map (·.1) = kv.map (fun p => PyData.tuple (p.1.map kD)) ∧ RDk K O H kvs (kv.map (·.2)))
  | _ => False
theorem RC.rd {c : PyData} {a : Addr} (h : RC K O H c a) (n : ¬ O a) : RD K O H c (.ref a) := by
  cases c with
  | list ds =>
    obtain ⟨vs, h1, h2⟩ := h
    simp only [RD]
    exact ⟨a, vs, rfl, n, h1, h2⟩
  | dict kvs =>
    simp only [RD]
    exact ⟨a, rfl, n, h⟩
  | _ => exact h.elim
theorem RC.there {c : PyData} {a : Addr} (h : RC K O H c a) : ∃ o, H a = some o := by
  cases c with
  | list ds => obtain ⟨vs, h1, _⟩ := h; exact ⟨_, h1⟩
  | dict kvs =>
    rcases h with ⟨kv, h1, _⟩ | ⟨kv, h1, _⟩
    · exact ⟨_, h1⟩
    · exact ⟨_, h1⟩
  | _ => exact h.elim
theorem RC.map {c : PyData} {a : Addr} (h : ∀ b x, ¬ O b → H b = some x → ¬ O' b ∧ H' b = some x) (ha : ∀ x, H a = some x → H' a = some x) (r : RC K O H c a) : RC K O' H' c a := by
  cases c with
  | list ds => obtain ⟨vs, h1, h2⟩ := r; exact ⟨vs, ha _ h1, h2.map h⟩
  | dict kvs =>
    rcases r with ⟨kv, h1, ek, h2⟩ | ⟨kv, h1, ek, h2⟩
    · exact .inl ⟨kv, ha _ h1, ek, h2.map h⟩
    · exact .inr ⟨kv, ha _ h1, ek, h2.map h⟩
  | _ => exact r.elim

/-- no object is met at all -/
def flat : PyData → Bool
  | .none | .bool _ | .int _ | .str _ => true
  | _ => false
theorem RD.flat {d : PyData} {v : V} (f : flat d = true) (r : RD K O H d v) : RD K O' H' d v := by
  cases d with
  | none => simpa only [RD] using r
  | bool _ => simpa only [RD] using r
  | int _ => simpa only [RD] using r
  | str _ => simpa only [RD] using r
  | _ => cases f

theorem RDs.nil_iff {vs : List V} : RDs K O H [] vs ↔ vs = [] := by simp only [RDs]
theorem RDs.cons {d : PyData} {ds : List PyData} {v : V} {vs : List V} (h : RD K O H d v) (t : RDs K O H ds vs) : RDs K O H (d :: ds) (v :: vs) := by
  simp only [RDs]
  exact ⟨v, vs, rfl, h, t⟩
theorem RDs.nil : RDs K O H [] [] := by simp only [RDs]
theorem RDs.length : ∀ {ds : List PyData} {vs : List V}, RDs K O H ds vs → vs.length = ds.length
  | [], _, r => by simp only [RDs] at r; subst r; rfl
  | d :: ds, _, r => by
    simp only [RDs] at r
    obtain ⟨v, t, rfl, _, h⟩ := r
    simp [RDs.length h]
theorem RDs.get : ∀ {ds : List PyData} {vs : List V} {i : Nat} {d : PyData}, RDs K O H ds vs → ds[i]? = some d → ∃ v, vs[i]? = some v ∧ RD K O H d v
  | [], _, _, _, _, e => by simp at e
  | x :: ds, _, 0, d, r, e => by
    simp only [RDs] at r
    obtain ⟨v, t, rfl, h, _⟩ := r
    simp at e; subst e
    exact ⟨v, rfl, h⟩
  | x :: ds, _, i + 1, d, r, e => by
    simp only [RDs] at r
    obtain ⟨v, t, rfl, _, h⟩ := r
    obtain ⟨u, h1, h2⟩ := RDs.get (i := i) (d := d) h (by simpa using e)
    exact ⟨u, by simpa using h1, h2⟩
theorem RDs.get' : ∀ {ds : List PyData} {vs : List V} {i : Nat} {v : V}, RDs K O H ds vs → vs[i]? = some v → ∃ d, ds[i]? = some d ∧ RD K O H d v
  | [], _, _, _, r, e => by simp only [RDs] at r; subst r; simp at e
  | x :: ds, _, 0, d, r, e => by
    simp only [RDs] at r
    obtain ⟨v, t, rfl, h, _⟩ := r
    simp at e; subst e
    exact ⟨x, rfl, h⟩
  | x :: ds, _, i + 1, d, r, e => by
    simp only [RDs] at r
    obtain ⟨v, t, rfl, _, h⟩ := r
    obtain ⟨u, h1, h2⟩ := RDs.get' (i := i) (v := d) h (by simpa using e)
    exact ⟨u, by simpa using h1, h2⟩
theorem RDs.append : ∀ {ds es : List PyData} {vs us : List V}, RDs K O H ds vs → RDs K O H es us → RDs K O H (ds ++ es) (vs ++ us)
  | [], _, _, _, r, s => by simp only [RDs] at r; subst r; exact s
  | d :: ds, _, _, _, r, s => by
    simp only [RDs] at r
    obtain ⟨v, t, rfl, h, h2⟩ := r
    exact .cons h (RDs.append h2 s)
theorem RDs.take : ∀ {ds : List PyData} {vs : List V} (n : Nat), RDs K O H ds vs → RDs K O H (ds.take n) (vs.take n)
  | _, _, 0, _ => by simpa using RDs.nil
  | [], _, n + 1, r => by simp only [RDs] at r; subst r; simpa using RDs.nil
  | d :: ds, _, n + 1, r => by
    simp only [RDs] at r
    obtain ⟨v, t, rfl, h, h2⟩ := r
    exact .cons h (RDs.take n h2)
theorem RDs.drop : ∀ {ds : List PyData} {vs : List V} (n : Nat), RDs K O H ds vs → RDs K O H (ds.drop n) (vs.drop n)
  | _, _, 0, r => r
  | [], _, n + 1, r => by simp only [RDs] at r; subst r; simpa using RDs.nil
  | d :: ds, _, n + 1, r => by
    simp only [RDs] at r
    obtain ⟨v, t, rfl, h, h2⟩ := r
    exact RDs.drop n h2
theorem RDs.rev : ∀ {ds : List PyData} {vs : List V}, RDs K O H ds vs → RDs K O H ds.reverse vs.reverse
  | [], _, r => by simp only [RDs] at r; subst r; simpa using RDs.nil
  | d :: ds, _, r => by
    simp only [RDs] at r
    obtain ⟨v, t, rfl, h, h2⟩ := r
    rw [List.reverse_cons, List.reverse_cons]
    exact RDs.append (RDs.rev h2) (.cons h .nil)
theorem RDs.rep {ds : List PyData} {vs : List V} (r : RDs K O H ds vs) : ∀ n : Nat, RDs K O H (List.replicate n ds).flatten (List.replicate n vs).flatten
  | 0 => by simpa using RDs.nil
  | n + 1 => by
    rw [List.replicate_succ, List.replicate_succ, List.flatten_cons, List.flatten_cons]
    exact RDs.append r (RDs.rep r n)
theorem RDs.set : ∀ {ds : List PyData} {vs : List V} (i : Nat) {d : PyData} {v : V}, RDs K O H ds vs → RD K O H d v → RDs K O H (ds.set i d) (vs.set i v)
  | [], _, _, _, _, r, _ => by simp only [RDs] at r; subst r; simpa using RDs.nil
  | x :: ds, _, 0, _, _, r, s => by
    simp only [RDs] at r
    obtain ⟨v, t, rfl, h, h2⟩ := r
    exact .cons s h2
  | x :: ds, _, i + 1, _, _, r, s => by
    simp only [RDs] at r
    obtain ⟨v, t, rfl, h, h2⟩ := r
    exact .cons h (RDs.set i h2 s)
theorem RDs.ints (ns : List Int) : RDs K O H (ns.map PyData.int) (ns.map V.int) := by
  induction ns with
  | nil => exact .nil
  | cons n ns ih => exact .cons (by simp only [RD]) ih
theorem RDs.strs (ns : List Str) : RDs K O H (ns.map PyData.str) (ns.map V.str) := by
  induction ns with
  | nil => exact .nil
  | cons n ns ih => exact .cons (by simp only [RD]) ih
theorem RDs.bools (ns : List Bool) : RDs K O H (ns.map PyData.bool) (ns.map V.bl) := by
  induction ns with
  | nil => exact .nil
  | cons n ns ih => exact .cons (by simp only [RD]) ih
theorem RDs.of_ints : ∀ {ns : List Int} {vs : List V}, RDs K O H (ns.map PyData.int) vs → vs = ns.map V.int
  | [], _, r => by simpa only [RDs, List.map_nil] using r
  | n :: ns, _, r => by
    simp only [RDs, List.map_cons, RD] at r
    obtain ⟨v, t, rfl, rfl, h⟩ := r
    rw [RDs.of_ints h]; rfl
theorem RDs.of_strs : ∀ {ns : List Str} {vs : List V}, RDs K O H (ns.map PyData.str) vs → vs = ns.map V.str
  | [], _, r => by simpa only [RDs, List.map_nil] using r
  | n :: ns, _, r => by
    simp only [RDs, List.map_cons, RD] at r
    obtain ⟨v, t, rfl, rfl, h⟩ := r
    rw [RDs.of_strs h]; rfl
theorem RDs.of_bools : ∀ {ns : List Bool} {vs : List V}, RDs K O H (ns.map PyData.bool) vs → vs = ns.map V.bl
  | [], _, r => by simpa only [RDs, List.map_nil] using r
  | n :: ns, _, r => by
    simp only [RDs, List.map_cons, RD] at r
    obtain ⟨v, t, rfl, rfl, h⟩ := r
    rw [RDs.of_bools h]; rfl

/-! ### data without dicts, as the deep rules take them -/
mutual
theorem RD.dp : ∀ {d : PyData} {v : V}, RD K O H d v → d.hasDict = false → Dp K H v d
  | .none, _, r, _ => by simp only [RD] at r; subst r; exact .non
  | .bool _, _, r, _ => by simp only [RD] at r; subst r; exact .bl _
  | .int _, _, r, _ => by simp only [RD] at r; subst r; exact .int _
  | .str _, _, r, _ => by simp only [RD] at r; subst r; exact .str _
  | .list ds, _, r, n => by
    simp only [RD] at r
    obtain ⟨a, vs, rfl, _, h1, h2⟩ := r
    exact .lst (SqL.of h1) (RDs.dp h2 (by simpa only [PyData.hasDict] using n))
  | .tuple ds, _, r, n => by
    simp only [RD] at r
    obtain ⟨a, vs, rfl, q, h2⟩ := r
    refine .tup ?_ (RDs.dp h2 (by simpa only [PyData.hasDict] using n))
    rcases q with ⟨_, h1⟩ | k
    · exact SqT.of h1
    · exact .inr k
  | .dict _, _, _, n => by simp only [PyData.hasDict] at n; cases n
theorem RDs.dp : ∀ {ds : List PyData} {vs : List V}, RDs K O H ds vs → PyData.hasDictAll ds = false → DpAll K H vs ds
  | [], _, r, _ => by simp only [RDs] at r; subst r; exact .nil
  | d :: ds, _, r, n => by
    simp only [RDs] at r
    obtain ⟨v, t, rfl, h, h2⟩ := r
    simp only [PyData.hasDictAll, Bool.or_eq_false_iff] at n
    exact .cons (RD.dp h n.1) (RDs.dp h2 n.2)
end
end
end Pu
namespace Pu
open PySem PySem.Spec PyProof.Rows L2

/-- the pot's two numbers -/
abbrev Pot := Int × Int
/-- a value as the reading has it: shared data; data that may reach an owned slot; a new container; the container of slot i; a list behind a call without objects; the pot -/
inductive Val where
  | sh (d : PyData) | bo (d : PyData) | fr (c : PyData) | ow (i : Nat) (c : PyData) | is (c : PyData) | pot
inductive Slot where
  | un | sh (d : PyData) | own (c : PyData) | iso (c : PyData) | pot
abbrev Sl := List Slot
abbrev Ev := Sl → Pot → Option (Val × Pot)
inductive Out where
  | nx (sl : Sl) (p : Pot) | bk (sl : Sl) (p : Pot) | ct (sl : Sl) (p : Pot) | rt (v : Val) (p : Pot)
abbrev Sm := Sl → Pot → Option Out

/-- what stands fixed through a call -/
structure Fc where
  ap : Addr
  H0 : Hp
  Oc : Pred
/-- all but the pot is as it was, the pot holds p -/
structure Ex (F : Fc) (H H' : Hp) (p : Pot) : Prop where
  keep : ∀ b x, b ≠ F.ap → H b = some x → H' b = some x
  pot : H' F.ap = some (.lst [.int p.1, .int p.2])
theorem Ex.trans {F : Fc} {H H1 H2 : Hp} {p q : Pot} (a : Ex F H H1 p) (b : Ex F H1 H2 q) : Ex F H H2 q := ⟨fun c x n e => b.keep c x n (a.keep c x n e), b.pot⟩

def isBox (s : Slot) : Bool := match s with
  | .own _ => true
  | .iso _ => true
  | _ => false
/-- O without the owned slots' containers -/
def Ob (O : Pred) (A : Nat → Addr) (sl : Sl) : Pred := fun b => O b ∧ ∀ i s, sl[i]? = some s → isBox s = true → b ≠ A i
def Oa (O : Pred) (q : Addr) : Pred := fun b => O b ∨ b = q
def SlotR (K : Fg) (F : Fc) (O : Pred) (A : Nat → Addr) (σ : L2.St) (H : Hp) (i : Nat) : Slot → Prop
  | .un => True
  | .sh d => ∃ v, σ[i]? = some (some v) ∧ RD K O H d v
  | .own c => σ[i]? = some (some (.ref (A i))) ∧ RC K O H c (A i) ∧ O (A i) ∧ F.H0 (A i) = none
  | .iso c => σ[i]? = some (some (.ref (A i))) ∧ RD K (fun b => O b ∧ b ≠ A i) H c (.ref (A i)) ∧ O (A i) ∧ F.H0 (A i) = none ∧ H (A i) ≠ none
  | .pot => σ[i]? = some (some (.ref F.ap))
structure Rl (K : Fg) (F : Fc) (O : Pred) (A : Nat → Addr) (sl : Sl) (p : Pot) (σ : L2.St) (H : Hp) : Prop where
  dom : ∀ b, O b → H b ≠ none
  cur : ∀ b, F.Oc b → O b
  cd : ∀ b, F.Oc b → F.H0 b ≠ none
  apO : F.Oc F.ap
  ext : ∀ b x, b ≠ F.ap → F.H0 b = some x → H b = some x
  pot : H F.ap = some (.lst [.int p.1, .int p.2])
  slot : ∀ i s, sl[i]? = some s → SlotR K F O A σ H i s
  inj : ∀ i j s t, sl[i]? = some s → isBox s = true → sl[j]? = some t → isBox t = true → A i = A j → i = j
  len : sl.length = σ.length

section
variable {K : Fg} {F : Fc} {O : Pred} {A : Nat → Addr} {sl : Sl} {p p' : Pot} {σ : L2.St} {H H' : Hp}
theorem Rl.box (R : Rl K F O A sl p σ H) {i : Nat} {s : Slot} (e : sl[i]? = some s) (b : isBox s = true) : O (A i) ∧ F.H0 (A i) = none ∧ ∃ x, H (A i) = some x := by
  have q := R.slot i s e
  cases s with
  | own c => exact ⟨q.2.2.1, q.2.2.2, q.2.1.there⟩
  | iso c => exact ⟨q.2.2.1, q.2.2.2.1, by
      cases z : H (A i) with
      | none => exact absurd z q.2.2.2.2
      | some x => exact ⟨x, rfl⟩⟩
  | _ => cases b
theorem Rl.boxNe (R : Rl K F O A sl p σ H) {i : Nat} {s : Slot} (e : sl[i]? = some s) (b : isBox s = true) : A i ≠ F.ap := fun z => by
  have h := (R.box e b).2.1
  rw [z] at h
  exact R.cd _ R.apO h
theorem Rl.ap (R : Rl K F O A sl p σ H) : O F.ap := R.cur _ R.apO
theorem Rl.potNe (R : Rl K F O A sl p σ H) : H F.ap ≠ none := by rw [R.pot]; exact fun z => nomatch z
theorem Rl.boApO (R : Rl K F O A sl p σ H) : Ob O A sl F.ap := ⟨R.ap, fun _ _ e b z => R.boxNe e b z.symm⟩
theorem Rl.boOc (R : Rl K F O A sl p σ H) : ∀ b, F.Oc b → Ob O A sl b := fun b h => ⟨R.cur b h, fun i s e bx z => by
  have q := (R.box e bx).2.1
  rw [← z] at q
  exact R.cd b h q⟩
/-- data stay under an extension that may change the pot -/
theorem ex_map {O : Pred} (ha : O F.ap) (x : Ex F H H' p') : ∀ b y, ¬ O b → H b = some y → ¬ O b ∧ H' b = some y := fun b y n e =>
  ⟨n, x.keep b y (fun z => n (by rw [z]; exact ha)) e⟩
theorem Rl.exp (R : Rl K F O A sl p σ H) (x : Ex F H H' p') : Rl K F O A sl p' σ H' := by
  have st : ∀ b, b ≠ F.ap → H b ≠ none → H' b ≠ none := fun b n h => by
    cases z : H b with
    | none => exact absurd z h
    | some y => rw [x.keep b y n z]; exact fun q => nomatch q
  have all : ∀ b, H b ≠ none → H' b ≠ none := fun b h => by
    by_cases z : b = F.ap
    · rw [z, x.pot]; exact fun q => nomatch q
    · exact st b z h
  refine ⟨fun b h => all b (R.dom b h), R.cur, R.cd, R.apO, fun b y n e => x.keep b y n (R.ext b y n e), x.pot, fun i s e => ?_, R.inj, R.len⟩
  have q := R.slot i s e
  cases s with
  | un => exact True.intro
  | sh d => obtain ⟨v, e1, r⟩ := q; exact ⟨v, e1, r.map (ex_map R.ap x)⟩
  | own c =>
    have ne := R.boxNe e rfl
    obtain ⟨e1, r, o, z⟩ := q
    exact ⟨e1, r.map (ex_map R.ap x) (fun y hy => x.keep _ y ne hy), o, z⟩
  | iso c =>
    have ne := R.boxNe e rfl
    obtain ⟨e1, r, o, z, t⟩ := q
    refine ⟨e1, r.map fun b y n eb => ⟨n, x.keep b y (fun w => n ⟨by rw [w]; exact R.ap, fun w2 => ne (by rw [← w2, w])⟩) eb⟩, o, z, st _ ne t⟩
  | pot => exact q
/-- one more object is out of reach -/
theorem Rl.add (R : Rl K F O A sl p σ H) {q : Addr} (n : H q = none) (x : Ex F H H' p') (t : H' q ≠ none) : Rl K F (Oa O q) A sl p' σ H' := by
  have R' := R.exp x
  have m : ∀ b y, ¬ O b → H b = some y → ¬ Oa O q b ∧ H' b = some y := fun b y nb e => ⟨fun z => z.elim nb (fun w => by rw [w, n] at e; cases e), (ex_map R.ap x b y nb e).2⟩
  refine ⟨fun b h => h.elim (R'.dom b) (fun z => by rw [z]; exact t), fun b h => .inl (R.cur b h), R.cd, R.apO, R'.ext, R'.pot, fun i s e => ?_, R.inj, R.len⟩
  have w := R.slot i s e
  cases s with
  | un => exact True.intro
  | sh d => obtain ⟨v, e1, r⟩ := w; exact ⟨v, e1, r.map m⟩
  | own c =>
    have ne := R.boxNe e rfl
    obtain ⟨e1, r, o, z⟩ := w
    exact ⟨e1, r.map m (fun y hy => x.keep _ y ne hy), .inl o, z⟩
  | iso c =>
    have ne := R.boxNe e rfl
    obtain ⟨e1, r, o, z, t2⟩ := w
    have w' := R'.slot i _ e
    refine ⟨e1, r.map fun b y nb eb => ⟨fun hh => ?_, ?_⟩, .inl o, z, w'.2.2.2.2⟩
    · rcases hh with ⟨h1 | h1, h2⟩
      · exact nb ⟨h1, h2⟩
      · rw [h1, n] at eb; cases eb
    · exact x.keep b y (fun w => nb ⟨by rw [w]; exact R.ap, fun w2 => ne (by rw [← w2, w])⟩) eb
  | pot => exact w

/-- the value v at H', come from H, is val -/
def VR (K : Fg) (F : Fc) (O : Pred) (A : Nat → Addr) (sl : Sl) (H H' : Hp) (v : V) : Val → Prop
  | .sh d => RD K O H' d v
  | .bo d => RD K (Ob O A sl) H' d v
  | .fr c => ∃ q, v = .ref q ∧ H q = none ∧ RC K (Oa O q) H' c q
  | .ow i c => v = .ref (A i) ∧ sl[i]? = some (.own c)
  | .is c => ∃ q, v = .ref q ∧ H q = none ∧ H' q ≠ none ∧ RD K O H' c v
  | .pot => v = .ref F.ap
theorem Rl.not_of_none (R : Rl K F O A sl p σ H) {q : Addr} (n : H q = none) : ¬ O q := fun z => R.dom q z n
theorem Oa_map {O : Pred} {q : Addr} {H : Hp} : ∀ b x, ¬ Oa O q b → H b = some x → ¬ O b ∧ H b = some x := fun b x n e => ⟨fun z => n (.inl z), e⟩
theorem Ob_map {O : Pred} {H : Hp} : ∀ b x, ¬ O b → H b = some x → ¬ Ob O A sl b ∧ H b = some x := fun b x n e => ⟨fun z => n z.1, e⟩
/-- a value stays while other things are reckoned -/
theorem VR.exp {v : V} {val : Val} {H1 H2 : Hp} (R : Rl K F O A sl p σ H) (x : Ex F H1 H2 p') (h : VR K F O A sl H H1 v val) : VR K F O A sl H H2 v val := by
  cases val with
  | sh d => exact RD.map (ex_map R.ap x) h
  | bo d => exact RD.map (ex_map R.boApO x) h
  | fr c =>
    obtain ⟨q, e, n, r⟩ := h
    have nq : q ≠ F.ap := fun z => R.potNe (by rw [← z]; exact n)
    exact ⟨q, e, n, r.map (ex_map (O := Oa O q) (.inl R.ap) x) (fun y hy => x.keep _ y nq hy)⟩
  | ow i c => exact h
  | is c =>
    obtain ⟨q, e, n, t, r⟩ := h
    have nq : q ≠ F.ap := fun z => R.potNe (by rw [← z]; exact n)
    refine ⟨q, e, n, ?_, RD.map (ex_map R.ap x) r⟩
    cases w : H1 q with
    | none => exact absurd w t
    | some u => rw [x.keep _ _ nq w]; exact fun z => nomatch z
  | pot => exact h
/-- .. come from an earlier heap -/
theorem VR.back {v : V} {val : Val} {H1 H2 : Hp} (y : Ex F H H1 p) (h : VR K F O A sl H1 H2 v val) : VR K F O A sl H H2 v val := by
  have nn : ∀ q, H1 q = none → H q = none := fun q n => by
    cases z : H q with
    | none => rfl
    | some u =>
      by_cases w : q = F.ap
      · rw [w] at n; rw [y.pot] at n; cases n
      · rw [y.keep q u w z] at n; cases n
  cases val with
  | fr c => obtain ⟨q, e, n, r⟩ := h; exact ⟨q, e, nn q n, r⟩
  | is c => obtain ⟨q, e, n, t, r⟩ := h; exact ⟨q, e, nn q n, t, r⟩
  | _ => exact h

/-! ### data of a value -/
/-- the datum and whether it reaches no owned slot -/
def Val.dat : Val → Option (PyData × Bool)
  | .sh d => some (d, true)
  | .bo d => some (d, false)
  | .fr c => some (c, true)
  | .ow _ c => some (c, false)
  | .is c => some (c, true)
  | .pot => none
def Oq (O : Pred) (A : Nat → Addr) (sl : Sl) (c : Bool) : Pred := if c = true then O else Ob O A sl
theorem VR.dat {v : V} {val : Val} {d : PyData} {c : Bool} (R : Rl K F O A sl p σ H) (R' : Rl K F O A sl p' σ H') (h : VR K F O A sl H H' v val) (e : val.dat = some (d, c)) : RD K (Oq O A sl c) H' d v := by
  cases val with
  | sh d' => cases e; exact h
  | bo d' => cases e; exact h
  | fr c' =>
    cases e
    obtain ⟨q, rfl, n, r⟩ := h
    exact RC.rd (r.map Oa_map (fun _ z => z)) (R.not_of_none n)
  | ow i c' =>
    cases e
    obtain ⟨rfl, e⟩ := h
    have s := R'.slot i _ e
    exact RC.rd (s.2.1.map Ob_map (fun _ z => z)) (fun z => z.2 i _ e rfl rfl)
  | is c' =>
    cases e
    obtain ⟨q, _, _, _, r⟩ := h
    exact r
  | pot => cases e
theorem Oq_map {O : Pred} {A : Nat → Addr} {sl : Sl} {c : Bool} {H : Hp} : ∀ b x, ¬ Oq O A sl true b → H b = some x → ¬ Oq O A sl c b ∧ H b = some x := fun b x n e => by
  cases c with
  | true => exact ⟨n, e⟩
  | false => exact Ob_map b x n e
theorem Rl.apQ (R : Rl K F O A sl p σ H) (c : Bool) : Oq O A sl c F.ap := by
  cases c with
  | true => exact R.ap
  | false => exact R.boApO
/-- shared or borrowed -/
def shq (c : Bool) (d : PyData) : Val := if c = true then .sh d else .bo d
theorem VR.shq {v : V} {d : PyData} {c : Bool} (h : RD K (Oq O A sl c) H' d v) : VR K F O A sl H H' v (shq c d) := by
  cases c with
  | true => exact h
  | false => exact h
/-- a flat datum is always shared -/
def shf (c : Bool) (d : PyData) : Val := if flat d = true then .sh d else shq c d
theorem VR.shf {v : V} {d : PyData} {c : Bool} (h : RD K (Oq O A sl c) H' d v) : VR K F O A sl H H' v (shf c d) := by
  unfold Pu.shf
  split
  · rename_i f
    exact h.flat f
  · exact VR.shq h
/-- the items of a list or a tuple -/
def Val.items : Val → Option (List PyData × Bool)
  | .sh (.list ds) => some (ds, true)
  | .sh (.tuple ds) => some (ds, true)
  | .bo (.list ds) => some (ds, false)
  | .bo (.tuple ds) => some (ds, false)
  | .fr (.list ds) => some (ds, true)
  | .ow _ (.list ds) => some (ds, true)
  | .is (.list ds) => some (ds, true)
  | _ => none
/-- a list or tuple as it is read -/
def SqR (K : Fg) (H : Hp) (a : Addr) (vs : List V) : Prop := SqL K H a vs ∨ SqT K H a vs
theorem VR.items {v : V} {val : Val} {ds : List PyData} {c : Bool} (R : Rl K F O A sl p σ H) (R' : Rl K F O A sl p' σ H') (h : VR K F O A sl H H' v val) (e : val.items = some (ds, c)) :
    ∃ a vs, v = .ref a ∧ ((∃ c', val.dat = some (.list ds, c') ∧ H' a = some (.lst vs)) ∨ (∃ c', val.dat = some (.tuple ds, c') ∧ SqT K H' a vs)) ∧ RDs K (Oq O A sl c) H' ds vs := by
  have lst : ∀ {c1 : Bool}, RD K (Oq O A sl c1) H' (.list ds) v → ∃ a vs, v = .ref a ∧ H' a = some (.lst vs) ∧ RDs K (Oq O A sl c1) H' ds vs := fun r => by
    simp only [RD] at r
    obtain ⟨a, vs, e1, _, e2, e3⟩ := r
    exact ⟨a, vs, e1, e2, e3⟩
  have tup : ∀ {c1 : Bool}, RD K (Oq O A sl c1) H' (.tuple ds) v → ∃ a vs, v = .ref a ∧ SqT K H' a vs ∧ RDs K (Oq O A sl c1) H' ds vs := fun r => by
    simp only [RD] at r
    obtain ⟨a, vs, e1, e2, e3⟩ := r
    exact ⟨a, vs, e1, e2.elim (fun q => SqT.of q.2) .inr, e3⟩
  cases val with
  | sh d =>
    cases d with
    | list es => cases e; obtain ⟨a, vs, e1, e2, e3⟩ := lst (c1 := true) h; exact ⟨a, vs, e1, .inl ⟨_, rfl, e2⟩, e3⟩
    | tuple es => cases e; obtain ⟨a, vs, e1, e2, e3⟩ := tup (c1 := true) h; exact ⟨a, vs, e1, .inr ⟨_, rfl, e2⟩, e3⟩
    | _ => cases e
  | bo d =>
    cases d with
    | list es => cases e; obtain ⟨a, vs, e1, e2, e3⟩ := lst (c1 := false) h; exact ⟨a, vs, e1, .inl ⟨_, rfl, e2⟩, e3⟩
    | tuple es => cases e; obtain ⟨a, vs, e1, e2, e3⟩ := tup (c1 := false) h; exact ⟨a, vs, e1, .inr ⟨_, rfl, e2⟩, e3⟩
    | _ => cases e
  | fr d =>
    cases d with
    | list es =>
      cases e
      obtain ⟨a, vs, e1, e2, e3⟩ := lst (c1 := true) (VR.dat R R' h rfl)
      exact ⟨a, vs, e1, .inl ⟨_, rfl, e2⟩, e3⟩
    | _ => cases e
  | ow i d =>
    cases d with
    | list es =>
      cases e
      obtain ⟨rfl, e⟩ := h
      have s := R'.slot i _ e
      obtain ⟨vs, h1, h2⟩ := s.2.1
      exact ⟨_, vs, rfl, .inl ⟨_, rfl, h1⟩, h2⟩
    | _ => cases e
  | is d =>
    cases d with
    | list es =>
      cases e
      obtain ⟨a, vs, e1, e2, e3⟩ := lst (c1 := true) (VR.dat R R' h rfl)
      exact ⟨a, vs, e1, .inl ⟨_, rfl, e2⟩, e3⟩
    | _ => cases e
  | pot => cases e
end
end Pu
namespace Pu
open PySem PySem.Spec PyProof.Rows L2

theorem PEimp {X : Cx} {e : Expr} {t t' : TE} (h : PE X e t) (i : ∀ σ H Q, t' σ H Q → t σ H Q) : PE X e t' := ⟨fun pins s σ H Q I w => h.run pins s σ H Q I (i σ H Q w)⟩
theorem PTimp {X : Cx} {e : Expr} {t t' : TT} (h : PT X e t) (i : ∀ σ H Q, t' σ H Q → t σ H Q) : PT X e t' := ⟨fun pins s σ H Q I w => h.run pins s σ H Q I (i σ H Q w)⟩
theorem PAimp {X : Cx} {e : List Expr} {t t' : TA} (h : PA X e t) (i : ∀ σ H Q, t' σ H Q → t σ H Q) : PA X e t' := ⟨fun pos pins s σ H Q I w => h.run pos pins s σ H Q I (i σ H Q w)⟩
theorem PSimp {X : Cx} {e : Stmt} {t t' : TS} (h : PS X e t) (i : ∀ D σ H, t' D σ H → t D σ H) : PS X e t' := ⟨fun pins s σ H D I w => h.run pins s σ H D I (i D σ H w)⟩
theorem PSsimp {X : Cx} {e : List Stmt} {t t' : TS} (h : PSs X e t) (i : ∀ D σ H, t' D σ H → t D σ H) : PSs X e t' := ⟨fun pins s σ H D I w => h.run pins s σ H D I (i D σ H w)⟩

/-- an expression's reading by f -/
def tE (K : Fg) (f : Ev) : TE := fun σ H Q => ∃ F O A sl p val p', Rl K F O A sl p σ H ∧ f sl p = some (val, p') ∧ ∀ v H', Ex F H H' p' → VR K F O A sl H H' v val → Q v H'
def tT (K : Fg) (f : Ev) : TT := fun σ H Q => ∃ F O A sl p b p', Rl K F O A sl p σ H ∧ f sl p = some (.sh (.bool b), p') ∧ ∀ H', Ex F H H' p' → Q b H'
abbrev CE (X : Cx) (e : Expr) (f : Ev) : Prop := PE X e (tE X.K f)
abbrev CT (X : Cx) (e : Expr) (f : Ev) : Prop := PT X e (tT X.K f)

section
variable {K : Fg} {F : Fc} {O : Pred} {A : Nat → Addr} {sl : Sl} {p p' : Pot} {σ : L2.St} {H H' : Hp} {f g : Ev} {Q : VK}
theorem Ex.refl (R : Rl K F O A sl p σ H) : Ex F H H p := ⟨fun _ _ _ e => e, R.pot⟩
theorem Ex.new (R : Rl K F O A sl p σ H) {q : Addr} {o : HO} (n : H q = none) : Ex F H (upd H q o) p := by
  refine ⟨fun b x _ e => by rw [upd_ne (ne_of_none e n)]; exact e, ?_⟩
  rw [upd_ne (ne_of_none R.pot n)]
  exact R.pot
/-- where f gives val -/
theorem tE.get {F : Fc} {O : Pred} {A : Nat → Addr} {val : Val} (R : Rl K F O A sl p σ H) (e : f sl p = some (val, p')) (h : ∀ v H', Ex F H H' p' → VR K F O A sl H H' v val → Q v H') : tE K f σ H Q :=
  ⟨F, O, A, sl, p, val, p', R, e, h⟩
end

section
variable {X : Cx} {a b c e : Expr} {fa fb fc f : Ev} {pos : Pos}

/-! ### names, constants -/
def varE (i : Nat) (sl : Sl) (p : Pot) : Option (Val × Pot) := match sl[i]? with
  | some (.sh d) => some (.sh d, p)
  | some (.own c) => some (.ow i c, p)
  | some (.iso c) => some (.bo c, p)
  | some .pot => some (.pot, p)
  | _ => none
def constE (d : PyData) (_ : Sl) (p : Pot) : Option (Val × Pot) := some (.sh d, p)
theorem ce_var (i : Nat) {x : Str} {pos : Pos} (hN : X.N[i]? = some x := by rfl) (hv : Vis X.env.scope x := by first | exact Or.inl rfl | exact Or.inr (Or.inl rfl) | exact Or.inr (Or.inr rfl)) (hd : (x == ("__debug__" : Str)) = false := by decide)
    (hcd : (x == ("__classdict__" : Str)) = false := by decide) : CE X (.Name x pos) (varE i) := by
  refine PEimp (pe_var hN hv hd hcd) fun σ H Q h => ?_
  obtain ⟨F, O, A, sl, p, val, p', R, hf, q⟩ := h
  unfold varE at hf
  split at hf
  · rename_i d es
    cases hf
    obtain ⟨v, e1, r⟩ := R.slot i _ es
    exact ⟨v, e1, q v H (Ex.refl R) r⟩
  · rename_i c es
    cases hf
    obtain ⟨e1, r⟩ := R.slot i _ es
    exact ⟨_, e1, q _ H (Ex.refl R) ⟨rfl, es⟩⟩
  · rename_i c es
    cases hf
    obtain ⟨e1, r, _⟩ := R.slot i _ es
    exact ⟨_, e1, q _ H (Ex.refl R) (r.map fun b x n e => ⟨fun z => n ⟨z.1, z.2 i _ es rfl⟩, e⟩)⟩
  · rename_i es
    cases hf
    have e1 := R.slot i _ es
    exact ⟨_, e1, q _ H (Ex.refl R) rfl⟩
  · cases hf
theorem ce_of_const {d : PyData} {v : V} (h : PE X e (tC v)) (hv : ∀ O H, RD X.K O H d v) : CE X e (constE d) := by
  refine PEimp h fun σ H Q h => ?_
  obtain ⟨F, O, A, sl, p, val, p', R, hf, q⟩ := h
  cases hf
  exact q v H (Ex.refl R) (hv _ _)
theorem ce_int {i : Int} {j pos} : CE X (.Constant (.int i) j pos) (constE (.int i)) := ce_of_const pe_int fun _ _ => by simp only [RD]
theorem ce_bl {i : Bool} {j pos} : CE X (.Constant (.bool i) j pos) (constE (.bool i)) := ce_of_const pe_bl fun _ _ => by simp only [RD]
theorem ce_non {j pos} : CE X (.Constant .none j pos) (constE .none) := ce_of_const pe_non fun _ _ => by simp only [RD]
theorem ce_str {i : Str} {j pos} : CE X (.Constant (.str i) j pos) (constE (.str i)) := ce_of_const pe_str fun _ _ => by simp only [RD]
theorem ce_gint {x : Str} {i : Int} {t : Tok} (hm : X.mg x = some (.int i t)) (hg : Gl X x := by rfl) (hd : (x == ("__debug__" : Str)) = false := by decide) : CE X (.Name x pos) (constE (.int i)) :=
  ce_of_const (v := .int i) (pe_glob (v := .int i) hg hm ⟨_, rfl⟩ hd) fun _ _ => by simp only [RD]
theorem ce_gstr {x : Str} {i : Str} {t : Tok} (hm : X.mg x = some (.str i t)) (hg : Gl X x := by rfl) (hd : (x == ("__debug__" : Str)) = false := by decide) : CE X (.Name x pos) (constE (.str i)) :=
  ce_of_const (v := .str i) (pe_glob (v := .str i) hg hm ⟨_, rfl⟩ hd) fun _ _ => by simp only [RD]
/-- a constant of the top whose datum is known by the written part -/
theorem ce_gdat {x : Str} {d : PyData} {u : Value} {v : V} (hm : X.mg x = some u) (r : RelV v u) (hv : ∀ O H, RD X.K O H d v) (hg : Gl X x := by rfl) (hd : (x == ("__debug__" : Str)) = false := by decide) : CE X (.Name x pos) (constE d) :=
  ce_of_const (pe_glob hg hm r hd) hv

/-! ### two parts -/
/-- what an operation on values does -/
def OpS (K : Fg) (r : R2) (g : Val → Val → Option Val) : Prop :=
  ∀ (F : Fc) (O : Pred) (A : Nat → Addr) (sl : Sl) (p0 p : Pot) (σ : L2.St) (H0 H : Hp) (x y : V) (vx vy z : Val) (Q : VK), Rl K F O A sl p0 σ H0 → Ex F H0 H p → Rl K F O A sl p σ H → VR K F O A sl H0 H x vx → VR K F O A sl H0 H y vy → g vx vy = some z →
    (∀ v H', Ex F H H' p → VR K F O A sl H H' v z → Q v H') → r x y H Q
def binE (g : Val → Val → Option Val) (fa fb : Ev) (sl : Sl) (p : Pot) : Option (Val × Pot) := match fa sl p with
  | some (x, p1) => (match fb sl p1 with
    | some (y, p2) => (match g x y with
      | some z => some (z, p2)
      | none => none)
    | none => none)
  | none => none
theorem tE_bin {K : Fg} {r : R2} {g : Val → Val → Option Val} (hs : OpS K r g) : ∀ σ H Q, tE K (binE g fa fb) σ H Q → tOp r (tE K fa) (tE K fb) σ H Q := fun σ H Q h => by
  obtain ⟨F, O, A, sl, p, val, p', R, hf, q⟩ := h
  unfold binE at hf
  split at hf
  · rename_i x p1 e1
    split at hf
    · rename_i y p2 e2
      split at hf
      · rename_i z e3
        cases hf
        refine tE.get R e1 fun v H1 x1 r1 => ?_
        have R1 := R.exp x1
        refine tE.get R1 e2 fun u H2 x2 r2 => ?_
        have x12 := x1.trans x2
        exact hs F O A sl p p' σ H H2 v u x y val Q R x12 (R.exp x12) (r1.exp R x2) (r2.back x1) e3 fun w' H3 x3 r3 => q w' H3 (x12.trans x3) (r3.back x12)
      · cases hf
    · cases hf
  · cases hf
theorem ce_bin {op : Operator} {r : R2} {g : Val → Val → Option Val} (ho : OpR X (binaryOp op) r) (hs : OpS X.K r g) (ha : CE X a fa) (hb : CE X b fb) : CE X (.BinOp a op b pos) (binE g fa fb) :=
  PEimp (pe_op ho ha hb) (tE_bin hs)
theorem ce_cmp {op : CmpOp} {r : R2} {g : Val → Val → Option Val} (ho : OpR X (compareOp op) r) (hs : OpS X.K r g) (ha : CE X a fa) (hb : CE X b fb) (hm : behindInMarks op b = false) : CE X (.Compare a [op] [b] pos) (binE g fa fb) :=
  PEimp (pe_cmpR ho ha hb hm) (tE_bin hs)
/-- a reading of a value as a test's -/
theorem tT_of {K : Fg} : ∀ σ H Q, tT K f σ H Q → tTest (tE K f) σ H Q := fun σ H Q h => by
  obtain ⟨F, O, A, sl, p, b, p', R, hf, q⟩ := h
  refine tE.get R hf fun v H' x r => ⟨b, ?_, q H' x⟩
  simpa only [VR, RD] using r
theorem tE_mono {K : Fg} {f : Ev} {σ : L2.St} {H : Hp} {Q Q' : VK} (h : tE K f σ H Q) (m : ∀ v H', Q v H' → Q' v H') : tE K f σ H Q' := by
  obtain ⟨F, O, A, sl, p, val, p', R, hf, q⟩ := h
  exact ⟨F, O, A, sl, p, val, p', R, hf, fun v H' x r => m v H' (q v H' x r)⟩
theorem ct_cmp {op : CmpOp} {r : R2} {g : Val → Val → Option Val} (ho : OpR X (compareOp op) r) (hs : OpS X.K r g) (ha : CE X a fa) (hb : CE X b fb) (hm : behindInMarks op b = false) : CT X (.Compare a [op] [b] pos) (binE g fa fb) :=
  PTimp (pt_cmpR ho ha hb hm) fun σ H Q h => tE_bin hs σ H _ (tT_of σ H Q h)
theorem ct_val (h : CE X e f) (he : ∀ whole, isTrue e X.env whole = (do let v ← whole; standAt e.pos; holding [v] (truthy v)) := by intro _; rfl) : CT X e f :=
  PTimp (pt_val h he) fun σ H Q h => tT_of σ H Q h

/-! ### operations: the answers -/
/-- from data to a flat datum -/
def opF (k : PyData → PyData → Option PyData) : Val → Val → Option Val := fun x y => match x.dat, y.dat with
  | some (d, _), some (e, _) => (match k d e with
    | some z => if flat z = true then some (.sh z) else none
    | none => none)
  | _, _ => none
/-- a rule that asks two data and answers a flat datum -/
theorem ops_flat {K : Fg} {r : R2} {k : PyData → PyData → Option PyData}
    (h : ∀ (O1 O2 : Pred) (H : Hp) (x y : V) (d e z : PyData) (Q : VK), RD K O1 H d x → RD K O2 H e y → k d e = some z → (∀ v, (∀ O H, RD K O H z v) → Q v H) → r x y H Q) : OpS K r (opF k) := by
  intro F O A sl p0 p σ H0 H x y vx vy z Q R0 X0 R rx ry hg q
  unfold opF at hg
  split at hg
  · rename_i d cd e ce e1 e2
    split at hg
    · rename_i z' e3
      split at hg
      · rename_i fl
        cases hg
        refine h _ _ H x y d e z' Q (rx.dat R0 R e1) (ry.dat R0 R e2) e3 fun v hv => q v H (Ex.refl R) (hv _ _)
      · cases hg
    · cases hg
  · cases hg

/-! tests of numbers that stop at a number that is not known -/
def sm62 (i : Int) : Bool := Nat.ble i.natAbs 4611686018427387903
def sm64 (i : Int) : Bool := Nat.ble i.natAbs 18446744073709551615
def posB : Int → Bool
  | .ofNat (_ + 1) => true
  | _ => false
def negB : Int → Bool
  | .negSucc _ => true
  | _ => false
theorem negB_iff {i : Int} : negB i = true ↔ i < 0 := by
  cases i with
  | ofNat n => exact ⟨fun h => (nomatch h), fun h => absurd h (by show ¬ ((n : Nat) : Int) < 0; omega)⟩
  | negSucc n => exact ⟨fun _ => by omega, fun _ => rfl⟩
def dv30 (i : Int) : Bool := Nat.ble i.natAbs 1073741823 && posB i
theorem posB_iff {i : Int} : posB i = true ↔ 0 < i := by
  cases i with
  | ofNat n =>
    cases n with
    | zero => exact ⟨fun h => (nomatch h), fun h => absurd h (by decide)⟩
    | succ n => exact ⟨fun _ => by show (0 : Int) < ((n + 1 : Nat) : Int); omega, fun _ => rfl⟩
  | negSucc n => exact ⟨fun h => (nomatch h), fun h => absurd h (by omega)⟩
theorem sm62_iff {i : Int} : sm62 i = true ↔ -4611686018427387904 < i ∧ i < 4611686018427387904 := by
  unfold sm62
  rw [Nat.ble_eq]
  omega
theorem sm64_iff {i : Int} : sm64 i = true ↔ -18446744073709551616 < i ∧ i < 18446744073709551616 := by
  unfold sm64
  rw [Nat.ble_eq]
  omega
theorem dv30_iff {i : Int} : dv30 i = true ↔ 0 < i ∧ i < 1073741824 := by
  unfold dv30
  rw [Bool.and_eq_true, Nat.ble_eq, posB_iff]
  omega
theorem sm62_nat {n : Nat} (h : n < 4611686018427387904) : sm62 (n : Int) = true := sm62_iff.mpr ⟨by omega, by omega⟩
theorem sm62_of {i : Int} (h : sm62 i = true) : -(2 ^ 62) ≤ i ∧ i < 2 ^ 62 := by
  have := sm62_iff.mp h
  exact ⟨by omega, by omega⟩
theorem sm64_of {i : Int} (h : sm64 i = true) : -(2 ^ 64) < i ∧ i < 2 ^ 64 := by
  have := sm64_iff.mp h
  exact ⟨by omega, by omega⟩
def addK : PyData → PyData → Option PyData
  | .int i, .int j => some (.int (i + j))
  | .str x, .str y => if x.length + y.length ≤ sizeLine then some (.str (x ++ y)) else none
  | _, _ => none
def subK : PyData → PyData → Option PyData
  | .int i, .int j => some (.int (i - j))
  | _, _ => none
def mulK : PyData → PyData → Option PyData
  | .int i, .int j => if (sm64 i || sm64 j) = true then some (.int (i * j)) else none
  | _, _ => none
def fdivK : PyData → PyData → Option PyData
  | .int i, .int j => if dv30 j = true then some (.int (i / j)) else none
  | _, _ => none
def modK : PyData → PyData → Option PyData
  | .int i, .int j => if posB j = true then some (.int (i % j)) else none
  | _, _ => none
def powK : PyData → PyData → Option PyData
  | .int i, .int j => if (Nat.ble j.natAbs 1000000 && !(negB j) && sm64 i) = true then some (.int (i ^ j.toNat)) else none
  | _, _ => none
def ltK : PyData → PyData → Option PyData
  | .int i, .int j => some (.bool (decide (i < j)))
  | _, _ => none
def leK : PyData → PyData → Option PyData
  | .int i, .int j => some (.bool (decide (i ≤ j)))
  | _, _ => none
def gtK : PyData → PyData → Option PyData
  | .int i, .int j => some (.bool (decide (j < i)))
  | _, _ => none
def geK : PyData → PyData → Option PyData
  | .int i, .int j => some (.bool (decide (j ≤ i)))
  | _, _ => none
def eqK : PyData → PyData → Option PyData
  | .str a, .str b => some (.bool (decide (a = b)))
  | d, e => if SeqAt.shaped d = true ∧ SeqAt.shaped e = true then some (.bool (d.eqv e)) else none
def neK : PyData → PyData → Option PyData
  | .str a, .str b => some (.bool (!decide (a = b)))
  | d, e => if SeqAt.shaped d = true ∧ SeqAt.shaped e = true then some (.bool (!d.eqv e)) else none
def rEq2 (K : Fg) : R2 := fun x y H Q => rEqD K x y H Q ∨ rEq x y H Q
def rNe2 (K : Fg) : R2 := fun x y H Q => rNeD K x y H Q ∨ rNe x y H Q
theorem opr_eq {X : Cx} (hu : X.A.units + 64 < cLine) : OpR X (compareOp .Eq) (rEq2 X.K) := (op_eqD hu).or op_eq
theorem opr_ne {X : Cx} (hu : X.A.units + 64 < cLine) : OpR X (compareOp .NotEq) (rNe2 X.K) := (op_neD hu).or op_ne
theorem strIff {a b : Str} : decide (V.str a = V.str b) = decide (a = b) := by
  rw [Bool.eq_iff_iff]; simp

section
variable {K : Fg}
theorem rdI {O : Pred} {H : Hp} {i : Int} {v : V} (h : RD K O H (.int i) v) : v = .int i := by simpa only [RD] using h
theorem rdS {O : Pred} {H : Hp} {i : Str} {v : V} (h : RD K O H (.str i) v) : v = .str i := by simpa only [RD] using h
theorem rdB {O : Pred} {H : Hp} {i : Bool} {v : V} (h : RD K O H (.bool i) v) : v = .bl i := by simpa only [RD] using h
theorem rdN {O : Pred} {H : Hp} {v : V} (h : RD K O H .none v) : v = .non := by simpa only [RD] using h
theorem toI {i : Int} : ∀ O H, RD K O H (.int i) (.int i) := fun _ _ => by simp only [RD]
theorem toS {i : Str} : ∀ O H, RD K O H (.str i) (.str i) := fun _ _ => by simp only [RD]
theorem toB {i : Bool} : ∀ O H, RD K O H (.bool i) (.bl i) := fun _ _ => by simp only [RD]
theorem toN : ∀ O H, RD K O H .none .non := fun _ _ => by simp only [RD]

theorem ops_I0 {k : PyData → PyData → Option PyData} {f : Int → Int → Int} (hk : ∀ d e z, k d e = some z → ∃ i j, d = .int i ∧ e = .int j ∧ z = .int (f i j)) : OpS K (rI0 fun i j => .int (f i j)) (opF k) :=
  ops_flat fun O1 O2 H x y d e z Q rx ry hz q => by
    obtain ⟨i, j, rfl, rfl, rfl⟩ := hk _ _ _ hz
    exact ⟨i, j, rdI rx, rdI ry, q _ toI⟩
theorem ops_B0 {k : PyData → PyData → Option PyData} {f : Int → Int → Bool} (hk : ∀ d e z, k d e = some z → ∃ i j, d = .int i ∧ e = .int j ∧ z = .bool (f i j)) : OpS K (rI0 fun i j => .bl (f i j)) (opF k) :=
  ops_flat fun O1 O2 H x y d e z Q rx ry hz q => by
    obtain ⟨i, j, rfl, rfl, rfl⟩ := hk _ _ _ hz
    exact ⟨i, j, rdI rx, rdI ry, q _ toB⟩
theorem ops_IC {C : Int → Int → Prop} {k : PyData → PyData → Option PyData} {f : Int → Int → Int} (hk : ∀ d e z, k d e = some z → ∃ i j, d = .int i ∧ e = .int j ∧ C i j ∧ z = .int (f i j)) : OpS K (rI C fun i j => .int (f i j)) (opF k) :=
  ops_flat fun O1 O2 H x y d e z Q rx ry hz q => by
    obtain ⟨i, j, rfl, rfl, c, rfl⟩ := hk _ _ _ hz
    exact ⟨i, j, rdI rx, rdI ry, c, q _ toI⟩
theorem ops_sub : OpS K (rI0 fun i j => .int (i - j)) (opF subK) := ops_I0 fun d e z h => by
  unfold subK at h; split at h
  · cases h; exact ⟨_, _, rfl, rfl, rfl⟩
  · cases h
theorem ops_mul : OpS K (rI CMul fun i j => .int (i * j)) (opF mulK) := ops_IC fun d e z h => by
  unfold mulK at h; split at h
  · split at h
    · rename_i c; cases h; exact ⟨_, _, rfl, rfl, (Bool.or_eq_true _ _ ▸ c : _ ∨ _).imp sm64_of sm64_of, rfl⟩
    · cases h
  · cases h
theorem ops_fdiv : OpS K (rI CDiv fun i j => .int (i / j)) (opF fdivK) := ops_IC fun d e z h => by
  unfold fdivK at h; split at h
  · split at h
    · rename_i c; cases h; exact ⟨_, _, rfl, rfl, dv30_iff.mp c, rfl⟩
    · cases h
  · cases h
theorem ops_mod : OpS K (rI (fun _ j => 0 < j) fun i j => .int (i % j)) (opF modK) := ops_IC fun d e z h => by
  unfold modK at h; split at h
  · split at h
    · rename_i c; cases h; exact ⟨_, _, rfl, rfl, posB_iff.mp c, rfl⟩
    · cases h
  · cases h
theorem ops_pow : OpS K (rI CPow fun i j => .int (i ^ j.toNat)) (opF powK) := ops_IC fun d e z h => by
  unfold powK at h; split at h
  · split at h
    · rename_i i j c; cases h
      rw [Bool.and_eq_true, Bool.and_eq_true, Nat.ble_eq, Bool.not_eq_true', ← Bool.not_eq_true, negB_iff] at c
      have c3 := sm64_iff.mp c.2
      exact ⟨_, _, rfl, rfl, ⟨by omega, by omega, by omega⟩, rfl⟩
    · cases h
  · cases h
theorem ops_lt : OpS K (rI0 fun i j => .bl (decide (i < j))) (opF ltK) := ops_B0 fun d e z h => by
  unfold ltK at h; split at h
  · cases h; exact ⟨_, _, rfl, rfl, rfl⟩
  · cases h
theorem ops_le : OpS K (rI0 fun i j => .bl (decide (i ≤ j))) (opF leK) := ops_B0 fun d e z h => by
  unfold leK at h; split at h
  · cases h; exact ⟨_, _, rfl, rfl, rfl⟩
  · cases h
theorem ops_gt : OpS K (rI0 fun i j => .bl (decide (j < i))) (opF gtK) := ops_B0 fun d e z h => by
  unfold gtK at h; split at h
  · cases h; exact ⟨_, _, rfl, rfl, rfl⟩
  · cases h
theorem ops_ge : OpS K (rI0 fun i j => .bl (decide (j ≤ i))) (opF geK) := ops_B0 fun d e z h => by
  unfold geK at h; split at h
  · cases h; exact ⟨_, _, rfl, rfl, rfl⟩
  · cases h
theorem noDict_of_shaped {d : PyData} (h : SeqAt.shaped d = true) : d.hasDict = false := by
  unfold SeqAt.shaped at h
  simp only [Bool.and_eq_true] at h
  exact PyData.hasDict_of_canLay d h.1
theorem ops_eq : OpS K (rEq2 K) (opF eqK) := ops_flat fun O1 O2 H x y d e z Q rx ry hz q => by
  unfold eqK at hz
  split at hz
  · cases hz
    exact .inr (by rw [rdS rx, rdS ry]; exact ⟨rfl, by rw [strIff]; exact q _ toB⟩)
  · split at hz
    · rename_i c
      cases hz
      exact .inl ⟨d, e, rx.dp (noDict_of_shaped c.1), ry.dp (noDict_of_shaped c.2), c.1, c.2, q _ toB⟩
    · cases hz
theorem ops_ne : OpS K (rNe2 K) (opF neK) := ops_flat fun O1 O2 H x y d e z Q rx ry hz q => by
  unfold neK at hz
  split at hz
  · cases hz
    exact .inr (by rw [rdS rx, rdS ry]; exact ⟨rfl, by rw [strIff]; exact q _ toB⟩)
  · split at hz
    · rename_i c
      cases hz
      exact .inl ⟨d, e, rx.dp (noDict_of_shaped c.1), ry.dp (noDict_of_shaped c.2), c.1, c.2, q _ toB⟩
    · cases hz
end
end
end Pu
namespace Pu
open PySem PySem.Spec PyProof.Rows L2

section
variable {K : Fg} {F : Fc} {O : Pred} {A : Nat → Addr} {sl : Sl} {p p' : Pot} {σ : L2.St} {H H' : Hp}

/-- a new list of items -/
def newL (c : Bool) (ds : List PyData) : Val := if c = true then .fr (.list ds) else .bo (.list ds)
def newT (c : Bool) (ds : List PyData) : Val := shq c (.tuple ds)
theorem VR.newL {ds : List PyData} {vs : List V} {c : Bool} (R : Rl K F O A sl p σ H) {q : Addr} (n : H q = none) (r : RDs K (Oq O A sl c) H ds vs) : VR K F O A sl H (upd H q (.lst vs)) (.ref q) (newL c ds) := by
  have m : ∀ (O1 : Pred), ∀ b x, ¬ O1 b → H b = some x → ¬ Oa O1 q b ∧ upd H q (.lst vs) b = some x := fun O1 b x nb e =>
    have ne := ne_of_none e n
    ⟨fun z => z.elim nb ne, by rw [upd_ne ne]; exact e⟩
  cases c with
  | true => exact ⟨q, rfl, n, vs, upd_same, r.map (m _)⟩
  | false =>
    refine RC.rd (c := .list ds) ⟨vs, upd_same, r.map fun b x nb e => ⟨nb, ((m _) b x nb e).2⟩⟩ fun z => R.not_of_none n z.1
theorem VR.newT {ds : List PyData} {vs : List V} {c : Bool} (R : Rl K F O A sl p σ H) {q : Addr} (n : H q = none) (r : RDs K (Oq O A sl c) H ds vs) : VR K F O A sl H (upd H q (.tup vs)) (.ref q) (newT c ds) := by
  have nq : ¬ Oq O A sl c q := fun z => R.not_of_none n (by
    cases c with
    | true => exact z
    | false => exact z.1)
  refine VR.shq ?_
  simp only [RD]
  exact ⟨q, vs, rfl, .inl ⟨nq, upd_same⟩, r.map fun b x nb e => ⟨nb, by rw [upd_ne (ne_of_none e n)]; exact e⟩⟩
theorem RDs.both {c c' : Bool} {ds : List PyData} {vs : List V} (r : RDs K (Oq O A sl c) H ds vs) : RDs K (Oq O A sl (c && c')) H ds vs := by
  cases c with
  | true => exact r.map Oq_map
  | false => exact r
theorem RDs.both' {c c' : Bool} {ds : List PyData} {vs : List V} (r : RDs K (Oq O A sl c') H ds vs) : RDs K (Oq O A sl (c && c')) H ds vs := by
  cases c with
  | true => exact r
  | false => cases c' with
    | true => exact r.map (Oq_map (c := false))
    | false => exact r
theorem RD.both {c c' : Bool} {ds : PyData} {vs : V} (r : RD K (Oq O A sl c) H ds vs) : RD K (Oq O A sl (c && c')) H ds vs := by
  cases c with
  | true => exact r.map Oq_map
  | false => exact r
theorem RD.both' {c c' : Bool} {ds : PyData} {vs : V} (r : RD K (Oq O A sl c') H ds vs) : RD K (Oq O A sl (c && c')) H ds vs := by
  cases c with
  | true => exact r
  | false => cases c' with
    | true => exact r.map (Oq_map (c := false))
    | false => exact r
/-- the items that a tuple's datum tells -/
theorem VR.tupItems {v : V} {val : Val} {ds : List PyData} {c : Bool} (R : Rl K F O A sl p σ H) (R' : Rl K F O A sl p' σ H') (h : VR K F O A sl H H' v val) (e : val.dat = some (.tuple ds, c)) :
    ∃ a vs, v = .ref a ∧ SqT K H' a vs ∧ RDs K (Oq O A sl c) H' ds vs := by
  have r := h.dat R R' e
  simp only [RD] at r
  obtain ⟨a, vs, e1, e2, e3⟩ := r
  exact ⟨a, vs, e1, e2.elim (fun q => SqT.of q.2) .inr, e3⟩

/-! ### + -/
def addV (x y : Val) : Option Val := match x.dat, y.dat with
  | some (.tuple ds, c), some (.tuple es, c') => if ds.length + es.length ≤ sizeLine then some (shq (c && c') (.tuple (ds ++ es))) else none
  | some (.list _, _), some (.list _, _) => (match x.items, y.items with
    | some (ds, c), some (es, c') => if ds.length + es.length ≤ sizeLine then some (newL (c && c') (ds ++ es)) else none
    | _, _ => none)
  | _, _ => opF addK x y
def rAdd4 (K : Fg) : R2 := fun x y H Q => ((((∃ i j, x = .int i ∧ y = .int j ∧ Q (.int (i + j)) H) ∨ (∃ i j, x = .str i ∧ y = .str j ∧ i.length + j.length ≤ sizeLine ∧ Q (.str (i ++ j)) H)) ∨ rCatA K x y H Q) ∨ rCat x y H Q)
theorem opr_add {X : Cx} : OpR X (binaryOp .Add) (rAdd4 X.K) := OpR.or (OpR.or (OpR.or op_add op_add_str) op_catA) op_cat
theorem ops_addF : OpS K (fun x y H Q => (∃ i j, x = .int i ∧ y = .int j ∧ Q (.int (i + j)) H) ∨ (∃ i j, x = .str i ∧ y = .str j ∧ i.length + j.length ≤ sizeLine ∧ Q (.str (i ++ j)) H)) (opF addK) :=
  ops_flat fun O1 O2 H x y d e z Q rx ry hz q => by
    unfold addK at hz
    split at hz
    · cases hz; exact .inl ⟨_, _, rdI rx, rdI ry, q _ toI⟩
    · split at hz
      · rename_i c; cases hz; exact .inr ⟨_, _, rdS rx, rdS ry, c, q _ toS⟩
      · cases hz
    · cases hz
theorem ops_add : OpS K (rAdd4 K) addV := by
  intro F O A sl p0 p σ H0 H x y vx vy z Q R0 X0 R rx ry hg q
  unfold addV at hg
  split at hg
  · rename_i ds c es c' e1 e2
    split at hg
    · rename_i hz
      cases hg
      obtain ⟨a, xs, rfl, ta, ra⟩ := rx.tupItems R0 R e1
      obtain ⟨b, ys, rfl, tb, rb⟩ := ry.tupItems R0 R e2
      have la := ra.length
      have lb := rb.length
      refine .inl (.inr ⟨a, b, xs, ys, rfl, rfl, ta, tb, by omega, fun ex => ?_, fun _ ey => ?_, fun _ _ q' hq => ?_⟩)
      · subst ex
        have : ds = [] := List.eq_nil_of_length_eq_zero (by simpa using la.symm)
        subst this
        exact q _ H (Ex.refl R) (VR.shq (RD.both' (ry.dat R0 R e2)))
      · subst ey
        have : es = [] := List.eq_nil_of_length_eq_zero (by simpa using lb.symm)
        subst this
        rw [List.append_nil] at q
        exact q _ H (Ex.refl R) (VR.shq (RD.both (rx.dat R0 R e1)))
      · exact q _ _ (Ex.new R hq) (VR.newT R hq (RDs.append (ra.both (c' := c')) (rb.both' (c := c))))
    · cases hg
  · split at hg
    · rename_i es1 c es2 c' i1 i2
      split at hg
      · rename_i hz
        cases hg
        obtain ⟨a, xs, rfl, ta, ra⟩ := rx.items R0 R i1
        obtain ⟨b, ys, rfl, tb, rb⟩ := ry.items R0 R i2
        have la := ra.length
        have lb := rb.length
        rcases ta with ⟨_, e3, ha⟩ | ⟨_, e3, _⟩
        · rcases tb with ⟨_, e4, hb⟩ | ⟨_, e4, _⟩
          · exact .inr ⟨a, b, xs, ys, rfl, rfl, ha, hb, by omega, fun q' hq => q _ _ (Ex.new R hq) (VR.newL R hq (RDs.append (ra.both (c' := c')) (rb.both' (c := c))))⟩
          · simp_all
        · simp_all
      · cases hg
    · cases hg
  · exact .inl (.inl (ops_addF F O A sl p0 p σ H0 H x y vx vy z Q R0 X0 R rx ry hg q))

/-! ### str * int, list * int -/
def repK : PyData → PyData → Option PyData
  | .str x, .int k => if -(2 ^ 63) ≤ k ∧ k < 2 ^ 63 ∧ x.length * k.toNat ≤ sizeLine then some (.str ⟨(List.replicate k.toNat x.cps.toList).flatten.toArray⟩) else none
  | _, _ => none

/-! ### in, not in -/
/-- a sign or a text within a text -/
def inK : PyData → PyData → Option PyData
  | .str x, .str y => some (.bool (!(Builtin.Str.occurrences y x 0 y.length 1).isEmpty))
  | .str _, _ => none
  | _, _ => none
/-- a datum within a list of data, or a tuple of flat ones -/
def inD (x y : Val) : Option Bool := match x.dat, y.dat with
  | some (.str a, _), some (.str b, _) => some (!(Builtin.Str.occurrences b a 0 b.length 1).isEmpty)
  | some (d, _), some (.list ds, _) => if SeqAt.shaped d = true ∧ SeqAt.shaped (.list ds) = true then some (ds.any fun z => PyData.eqv z d) else none
  | some (d, _), some (.tuple ds, _) => if flat d = true ∧ ds.all flat = true then some (ds.any fun z => PyData.eqv z d) else none
  | _, _ => none
def inV' (x y : Val) : Option Val := (inD x y).map fun b => .sh (.bool b)
def ninV (x y : Val) : Option Val := (inD x y).map fun b => .sh (.bool (!b))
theorem flatV_of {O1 : Pred} {d : PyData} {v : V} (f : flat d = true) (r : RD K O1 H d v) : flatV v = true := by
  cases d with
  | none => rw [rdN r]; rfl
  | bool _ => rw [rdB r]; rfl
  | int _ => rw [rdI r]; rfl
  | str _ => rw [rdS r]; rfl
  | _ => cases f
theorem eqV_of {O1 O2 : Pred} {d e : PyData} {v u : V} (f : flat d = true) (g : flat e = true) (r : RD K O1 H d v) (s : RD K O2 H e u) : eqV v u = PyData.eqv d e := by
  cases d with
  | none => rw [rdN r]; cases e with
    | none => rw [rdN s]; rfl
    | bool _ => rw [rdB s]; rfl
    | int _ => rw [rdI s]; rfl
    | str _ => rw [rdS s]; rfl
    | _ => cases g
  | bool b => rw [rdB r]; cases e with
    | none => rw [rdN s]; rfl
    | bool _ => rw [rdB s]; rfl
    | int j => rw [rdI s]; cases b <;> rfl
    | str _ => rw [rdS s]; rfl
    | _ => cases g
  | int i => rw [rdI r]; cases e with
    | none => rw [rdN s]; rfl
    | bool b => rw [rdB s]; cases b <;> rfl
    | int _ => rw [rdI s]; rfl
    | str _ => rw [rdS s]; rfl
    | _ => cases g
  | str _ => rw [rdS r]; cases e with
    | none => rw [rdN s]; rfl
    | bool _ => rw [rdB s]; rfl
    | int _ => rw [rdI s]; rfl
    | str _ => rw [rdS s]; rfl
    | _ => cases g
  | _ => cases f
theorem flats_of {O1 : Pred} : ∀ {ds : List PyData} {vs : List V}, ds.all flat = true → RDs K O1 H ds vs → vs.all flatV = true
  | [], _, _, r => by simp only [RDs] at r; subst r; rfl
  | d :: ds, _, f, r => by
    simp only [RDs] at r
    obtain ⟨v, t, rfl, h1, h2⟩ := r
    simp only [List.all_cons, Bool.and_eq_true] at f ⊢
    exact ⟨flatV_of f.1 h1, flats_of f.2 h2⟩
theorem inV_of {O1 O2 : Pred} {d : PyData} {x : V} (f : flat d = true) (r : RD K O2 H d x) : ∀ {ds : List PyData} {vs : List V}, ds.all flat = true → RDs K O1 H ds vs → inV x vs = ds.any fun z => PyData.eqv z d
  | [], _, _, r => by simp only [RDs] at r; subst r; rfl
  | e :: ds, _, g, rs => by
    simp only [RDs] at rs
    obtain ⟨v, t, rfl, h1, h2⟩ := rs
    simp only [List.all_cons, Bool.and_eq_true] at g
    have ih := inV_of (x := x) f r g.2 h2
    unfold inV at ih ⊢
    rw [List.any_cons, List.any_cons, ih, eqV_of g.1 f h1 r]
def rIn3 (K : Fg) (neg : Bool) : R2 := fun x y H Q => (((∃ i j, x = .str i ∧ y = .str j ∧ Q (.bl (if neg = true then !(!(Builtin.Str.occurrences j i 0 j.length 1).isEmpty) else !(Builtin.Str.occurrences j i 0 j.length 1).isEmpty)) H) ∨ rIn K neg x y H Q) ∨
  (∃ d ds, Dp K H x d ∧ Dp K H y (.list ds) ∧ SeqAt.shaped d = true ∧ SeqAt.shaped (.list ds) = true ∧ Q (.bl (if neg = true then !ds.any fun z => PyData.eqv z d else ds.any fun z => PyData.eqv z d)) H))
theorem opr_in {X : Cx} (hu : X.A.units + 65 < cLine) : OpR X (compareOp .In) (rIn3 X.K false) := OpR.or (OpR.or op_in_str op_in_seq) (op_inD hu)
theorem opr_nin {X : Cx} (hu : X.A.units + 65 < cLine) : OpR X (compareOp .NotIn) (rIn3 X.K true) := OpR.or (OpR.or op_notin_str op_notIn_seq) (op_notInD hu)
theorem ops_in0 {neg : Bool} : OpS K (rIn3 K neg) (fun x y => (inD x y).map fun b => .sh (.bool (if neg = true then !b else b))) := by
  intro F O A sl p0 p σ H0 H x y vx vy z Q R0 X0 R rx ry hg q
  have fin : ∀ b : Bool, z = .sh (.bool b) → Q (.bl b) H := fun b e => by
    subst e
    exact q (.bl b) H (Ex.refl R) (show RD K O H (.bool b) (.bl b) from toB O H)
  obtain ⟨b, hb, e⟩ := Option.map_eq_some_iff.mp hg
  have fin := fin _ e.symm
  unfold inD at hb
  split at hb
  · rename_i a _ b' _ e1 e2
    cases hb
    exact .inl (.inl ⟨a, b', rdS (rx.dat R0 R e1), rdS (ry.dat R0 R e2), fin⟩)
  · rename_i d cd ds cs e1 e2
    split at hb
    · rename_i c
      cases hb
      exact .inr ⟨d, ds, (rx.dat R0 R e1).dp (noDict_of_shaped c.1), (ry.dat R0 R e2).dp (noDict_of_shaped c.2), c.1, c.2, fin⟩
    · cases hb
  · rename_i d cd ds cs e1 e2
    split at hb
    · rename_i c
      cases hb
      obtain ⟨a, vs, rfl, t, r⟩ := ry.tupItems R0 R e2
      have rr := rx.dat R0 R e1
      refine .inl (.inr ⟨a, vs, rfl, .inr t, flatV_of c.1 rr, flats_of c.2 r, ?_⟩)
      rw [inV_of c.1 rr c.2 r]
      exact fin
    · cases hb
  · cases hb
theorem ops_in : OpS K (rIn3 K false) inV' := ops_in0 (neg := false)
theorem ops_nin : OpS K (rIn3 K true) ninV := ops_in0 (neg := true)
/-! ### is None -/
def isNo : PyData → Bool
  | .none => true
  | _ => false
def isnK (d e : PyData) : Option PyData := if isNo e = true then some (.bool (isNo d)) else none
def notnK (d e : PyData) : Option PyData := if isNo e = true then some (.bool (!isNo d)) else none
theorem non_iff {O1 : Pred} {d : PyData} {v : V} (r : RD K O1 H d v) : decide (v = .non) = isNo d := by
  cases d with
  | none => rw [rdN r]; rfl
  | bool _ => rw [rdB r]; rfl
  | int _ => rw [rdI r]; rfl
  | str _ => rw [rdS r]; rfl
  | list _ => simp only [RD] at r; obtain ⟨a, vs, rfl, _⟩ := r; rfl
  | tuple _ => simp only [RD] at r; obtain ⟨a, vs, rfl, _⟩ := r; rfl
  | dict _ => simp only [RD] at r; obtain ⟨a, rfl, _⟩ := r; rfl
theorem isNo_eq {e : PyData} (h : isNo e = true) : e = .none := by
  cases e <;> first | rfl | cases h
theorem ops_isn : OpS K (fun x y H Q => y = .non ∧ Q (.bl (decide (x = .non))) H) (opF isnK) := ops_flat fun O1 O2 H x y d e z Q rx ry hz q => by
  unfold isnK at hz
  split at hz
  · rename_i h
    cases hz
    have := isNo_eq h
    subst this
    refine ⟨rdN ry, ?_⟩
    rw [non_iff rx]
    exact q _ toB
  · cases hz
theorem ops_notn : OpS K (fun x y H Q => y = .non ∧ Q (.bl (!decide (x = .non))) H) (opF notnK) := ops_flat fun O1 O2 H x y d e z Q rx ry hz q => by
  unfold notnK at hz
  split at hz
  · rename_i h
    cases hz
    have := isNo_eq h
    subst this
    refine ⟨rdN ry, ?_⟩
    rw [non_iff rx]
    exact q _ toB
  · cases hz
end
end Pu
set_option maxHeartbeats 4000000
/-! tuple * int and str * int at the edges. -/
namespace Pu
open PySem PySem.Spec PyProof.Rows L2

/-- t * k where nothing is copied: k = 1, or t empty -/
theorem tuple_mul_same (l : Addr) (items : Array Value) (n : Nat) (dd : Option Addr) (sl : Array (Option Value)) (x : Int) (u : Tok) (c0 : (decide (x < -(2 ^ 63)) || decide (x ≥ 2 ^ 63)) = false) (c1 : (items.isEmpty || x == 1) = true) :
    Meets (Builtin.«tuple.__mul__» ⟨[.ref l, .int x u], []⟩) (fun _ R s => s.heap.get? l = some { cls := .type "tuple", dict := dd, data := .seq items n, slots := sl } ∧ R (.ok (.ret (Value.ref l))) s) :=
  .of_wp fun prog w A R s h => by
    obtain ⟨hp, g, d, tk, os⟩ := s
    obtain ⟨hl, h⟩ := h
    have f1 := AutoSeq1.idx_int
    wp_walk using wpAny_loadPart' hl
    repeat (first
      | (refine wpAny_ite_false (decide_eq_false (by rw [c0]; exact Bool.false_ne_true)) ?_; wp_walk using wpAny_loadPart' hl)
      | (refine wpAny_ite_true (decide_eq_true (by rw [c1])) ?_; wp_walk using wpAny_loadPart' hl))
    exact ⟨_, rfl, h⟩
theorem tuple_mul_none (l : Addr) (items : Array Value) (n : Nat) (dd : Option Addr) (sl : Array (Option Value)) (x : Int) (u : Tok) (c0 : (decide (x < -(2 ^ 63)) || decide (x ≥ 2 ^ 63)) = false) (c1 : (items.isEmpty || x == 1) = false) (c2 : (decide (x ≤ 0) || items.isEmpty) = true) :
    Meets (Builtin.«tuple.__mul__» ⟨[.ref l, .int x u], []⟩) (fun _ R s => s.heap.get? l = some { cls := .type "tuple", dict := dd, data := .seq items n, slots := sl } ∧
      R (.ok (.ret (Value.ref s.heap.objs.size))) { s with heap := s.heap.push { cls := Value.type "tuple", data := Data.seq #[] }, toks := s.toks }) :=
  .of_wp fun prog w A R s h => by
    obtain ⟨hp, g, d, tk, os⟩ := s
    obtain ⟨hl, h⟩ := h
    have f1 := AutoSeq1.idx_int
    have hz : (#[] : Array Value).size ≤ sizeLine := Nat.zero_le _
    wp_walk using wpAny_loadPart' hl
    repeat (first
      | (refine wpAny_ite_false (decide_eq_false (by rw [c0]; exact Bool.false_ne_true)) ?_; wp_walk using wpAny_loadPart' hl)
      | (refine wpAny_ite_false (decide_eq_false (by rw [c1]; exact Bool.false_ne_true)) ?_; wp_walk using wpAny_loadPart' hl)
      | (refine wpAny_ite_true (decide_eq_true (by rw [c2])) ?_; wp_walk using wpAny_loadPart' hl)
      | (refine wpAny_ite_false (decide_eq_false (Nat.not_lt.mpr hz)) ?_; wp_walk using wpAny_loadPart' hl))
    exact ⟨_, rfl, h⟩
/-- t * k, for every k that is not too great -/
def rMulT (K : Fg) : R2 := fun x y H Q => ∃ l k xs, x = .ref l ∧ y = .int k ∧ SqT K H l xs ∧ k ≤ 1000 ∧ -1000 ≤ k ∧ xs.length ≤ 1000 ∧
  (xs = [] ∨ k = 1 → Q (.ref l) H) ∧ (xs ≠ [] → k ≤ 0 → ∀ p, H p = none → Q (.ref p) (upd H p (.tup []))) ∧ (xs ≠ [] → 2 ≤ k → ∀ p, H p = none → Q (.ref p) (upd H p (.tup (List.replicate k.toNat xs).flatten)))
section
variable {X : Cx}
theorem op_mulT : OpR X (binaryOp .Mult) (rMulT X.K) := by
  intro pins s σ H x y v u Q I rx ry h
  obtain ⟨l, k, xs, rfl, rfl, hT, h1, h0, hz, q1, q2, q3⟩ := h
  by_cases hb : xs ≠ [] ∧ 2 ≤ k
  · exact op_repT pins s σ H _ _ v u Q I rx ry ⟨l, k, xs, rfl, rfl, hT, hb.1, hb.2, h1, hz, q3 hb.1 hb.2⟩
  cases rx
  obtain ⟨t, rfl⟩ := ry
  obtain ⟨its, r, ⟨⟨cls, dd, data, sl⟩, ho, hc, n, hd⟩, hs⟩ := I.tuple hT
  simp only at hc hd
  subst hc hd
  have tyl : s.TypeIs (.ref l) "tuple" := ⟨_, ho, rfl⟩
  have hle : its.length = xs.length := r.length.symm
  have c0 : (decide (k < -(2 ^ 63)) || decide (k ≥ 2 ^ 63)) = false := by
    rw [decide_eq_false (by omega), decide_eq_false (by omega)]; rfl
  have hi : its.toArray.isEmpty = xs.isEmpty := by
    cases its with
    | nil => cases xs with
      | nil => rfl
      | cons a b => simp at hle
    | cons a b => cases xs with
      | nil => simp at hle
      | cons a b => rfl
  by_cases hx : xs = [] ∨ k = 1
  · have c1 : (its.toArray.isEmpty || k == 1) = true := by
      rw [hi]
      rcases hx with e | e
      · rw [e]; rfl
      · rw [e]; simp
    have same := tuple_mul_same l its.toArray n dd sl k t c0 c1
    have step2 := call_meets F.slot_tuple_mul tyl F.entry_tuple_mul (F.args_tuple_mul_2 _ _) same
      (prog := X.prog) (w := X.w) (A := X.A) (E := X.xe) (s := s) (Q := EP X pins σ Q) ⟨ho, ⟨.ref l, H, I, rfl, q1 hx⟩⟩
    have turn := int_rmul_tuple k t l its.toArray n dd sl
    exact wpAny_binaryOp_repeat_ref (T := "tuple") (U := "int") (by decide) ⟨_, ho, rfl⟩ (fun z => typeIs_int z k t) noFill_tuple_mul
      F.fills_int_mul F.slot_int_rmul repeat_tuple F.slot_int_index.lookup
      (call_meets F.slot_int_rmul (typeIs_int s k t) F.entry_int_rmul (F.args_int_rmul_2 _ _) turn ⟨ho, rfl, ⟨_, ho, rfl⟩, step2⟩)
  · have hx1 : xs ≠ [] := fun e => hx (.inl e)
    have hk1 : k ≠ 1 := fun e => hx (.inr e)
    have hk0 : k ≤ 0 := by
      have : ¬ 2 ≤ k := fun e => hb ⟨hx1, e⟩
      omega
    have e1 : its.toArray.isEmpty = false := by
      rw [hi]
      cases xs with
      | nil => exact absurd rfl hx1
      | cons a b => rfl
    have c1 : (its.toArray.isEmpty || k == 1) = false := by
      rw [e1, Bool.false_or]
      exact beq_eq_false_iff_ne.mpr hk1
    have c2 : (decide (k ≤ 0) || its.toArray.isEmpty) = true := by
      rw [decide_eq_true hk0, Bool.true_or]
    have none := tuple_mul_none l its.toArray n dd sl k t c0 c1 c2
    have new : EP X pins σ Q (Value.ref s.heap.objs.size) { s with heap := s.heap.push { cls := Value.type "tuple", data := Data.seq #[] }, toks := s.toks } := by
      refine ⟨.ref s.heap.objs.size, _, I.laid (t' := s.toks) (o := .tup []) (fun b ob e => Heap.get?_push_of_some _ e) (Nat.le_refl _) ?_, rfl, q2 hx1 hk0 _ (I.hok.fresh (Nat.le_refl _))⟩
      exact ⟨Nat.zero_le _, [], .nil, IsTup.new _ _⟩
    have step2 := call_meets F.slot_tuple_mul tyl F.entry_tuple_mul (F.args_tuple_mul_2 _ _) none
      (prog := X.prog) (w := X.w) (A := X.A) (E := X.xe) (s := s) (Q := EP X pins σ Q) ⟨ho, new⟩
    have turn := int_rmul_tuple k t l its.toArray n dd sl
    exact wpAny_binaryOp_repeat_ref (T := "tuple") (U := "int") (by decide) ⟨_, ho, rfl⟩ (fun z => typeIs_int z k t) noFill_tuple_mul
      F.fills_int_mul F.slot_int_rmul repeat_tuple F.slot_int_index.lookup
      (call_meets F.slot_int_rmul (typeIs_int s k t) F.entry_int_rmul (F.args_int_rmul_2 _ _) turn ⟨ho, rfl, ⟨_, ho, rfl⟩, step2⟩)
end
end Pu
namespace Pu
open PySem PySem.Spec PyProof.Rows L2

def repS (z : Str) (k : Int) : Str := ⟨(List.replicate k.toNat z.cps.toList).flatten.toArray⟩
theorem fold_app (a : Array Nat) : ∀ (n : Nat) (acc : Array Nat), (List.replicate n a).foldl (fun x y => x ++ y) acc = acc ++ (List.replicate n a.toList).flatten.toArray
  | 0, acc => by simp
  | n + 1, acc => by
    rw [List.replicate_succ, List.foldl_cons, fold_app a n]
    apply Array.toList_inj.mp
    simp [List.replicate_succ]
theorem repS_len (z : Str) (k : Int) : (repS z k).length = z.length * k.toNat := by
  show ((List.replicate k.toNat z.cps.toList).flatten.toArray).size = z.cps.size * k.toNat
  have : ∀ n : Nat, (List.replicate n z.cps.toList).flatten.length = z.cps.size * n := fun n => by
    induction n with
    | zero => rfl
    | succ n ih => rw [List.replicate_succ, List.flatten_cons, List.length_append, ih, Nat.mul_succ, Nat.add_comm]; rfl
  simp only [List.size_toArray]
  exact this _
section
variable {X : Cx}
theorem op_mul_str : OpR X (binaryOp .Mult) (fun x y H Q => ∃ (z : Str) (k : Int), x = .str z ∧ y = .int k ∧ -(2 ^ 62) ≤ k ∧ k ≤ 1000000 ∧ z.length * k.toNat ≤ sizeLine ∧ Q (.str (repS z k)) H) := by
  intro pins s σ H x y v u Q I rx ry h
  obtain ⟨z, k, rfl, rfl, k0, k1, hz, q⟩ := h
  obtain ⟨t, rfl⟩ := rx
  obtain ⟨t', rfl⟩ := ry
  have hs : sizeLine = 16777216 := sizeLine_eq
  refine P.mul_str (by rw [decide_eq_false (by omega), decide_eq_false (by omega)]; rfl) (fun h1 h2 => ?_) (fun h1 h2 => ?_) ?_
  · have hk : (1 : Int) ≤ k := by omega
    have hl : ((z.length : Nat) : Int) ≤ 16777216 := by
      have : 1 ≤ k.toNat := by omega
      have h3 : z.length * 1 ≤ z.length * k.toNat := Nat.mul_le_mul_left _ this
      omega
    have h4 : (9000000000000 : Int) ≤ (2 ^ 63 - 1) / k := by
      rw [Int.le_ediv_iff_mul_le (by omega)]
      omega
    omega
  · unfold Builtin.Str.tooLong
    exact decide_eq_false (by omega)
  · split
    · rename_i hk
      have e : repS z k = Str.empty := by
        unfold repS
        have : k.toNat = 0 := by omega
        rw [this]; rfl
      rw [e] at q
      exact ⟨by decide, .str Str.empty, H, I.tok _, ⟨_, rfl⟩, q⟩
    · split
      · rename_i hk h2
        have e : repS z k = z := by
          unfold repS
          by_cases h3 : k = 1
          · subst h3
            simp
          · have h4 : z.length = 0 := by simpa [h3] using h2
            have h5 : z.cps = #[] := Array.eq_empty_of_size_eq_zero h4
            cases z with
            | mk cps => simp only at h5; subst h5; simp
        rw [e] at q
        exact ⟨.str z, H, I, ⟨_, rfl⟩, q⟩
      · have e : (⟨(List.replicate k.toNat z.cps).foldl (· ++ ·) #[]⟩ : Str) = repS z k := by
          unfold repS
          rw [fold_app]
          simp
        rw [e]
        exact ⟨by rw [repS_len]; exact hz, .str (repS z k), H, I.tok _, ⟨_, rfl⟩, q⟩
end

/-- * -/
def mulV (x y : Val) : Option Val := match x.dat, y.dat with
  | some (.str z, _), some (.int k, _) => if -(2 ^ 62) ≤ k ∧ k ≤ 1000000 ∧ z.length * k.toNat ≤ sizeLine then some (.sh (.str (repS z k))) else none
  | some (.tuple ds, c), some (.int k, _) => if k ≤ 1000 ∧ -1000 ≤ k ∧ ds.length ≤ 1000 then some (shq c (.tuple (List.replicate k.toNat ds).flatten)) else none
  | some (.list _, _), some (.int k, _) => (match x.items with
    | some (ds, c) => if -(2 ^ 63) ≤ k ∧ k < 2 ^ 63 ∧ ds.length * k.toNat ≤ sizeLine then some (newL c (List.replicate k.toNat ds).flatten) else none
    | none => none)
  | _, _ => opF mulK x y
def rMul4 (K : Fg) : R2 := fun x y H Q => (((rI CMul (fun i j => .int (i * j)) x y H Q) ∨ (∃ (z : Str) (k : Int), x = .str z ∧ y = .int k ∧ -(2 ^ 62) ≤ k ∧ k ≤ 1000000 ∧ z.length * k.toNat ≤ sizeLine ∧ Q (.str (repS z k)) H)) ∨ rMulT K x y H Q) ∨ rRep x y H Q
theorem opr_mul {X : Cx} : OpR X (binaryOp .Mult) (rMul4 X.K) := OpR.or (OpR.or (OpR.or op_mul op_mul_str) op_mulT) op_rep
theorem ops_mul4 {K : Fg} : OpS K (rMul4 K) mulV := by
  intro F O A sl p0 p σ H0 H x y vx vy z Q R0 X0 R rx ry hg q
  unfold mulV at hg
  split at hg
  · rename_i zz _ k _ e1 e2
    split at hg
    · rename_i c
      cases hg
      exact .inl (.inl (.inr ⟨zz, k, rdS (rx.dat R0 R e1), rdI (ry.dat R0 R e2), c.1, c.2.1, c.2.2, q _ H (Ex.refl R) (toS (K := K) O H)⟩))
    · cases hg
  · rename_i ds c k _ e1 e2
    split at hg
    · rename_i cc
      cases hg
      obtain ⟨a, xs, rfl, ta, ra⟩ := rx.tupItems R0 R e1
      have la := ra.length
      have rd := rx.dat R0 R e1
      refine .inl (.inr ⟨a, k, xs, rfl, rdI (ry.dat R0 R e2), ta, cc.1, cc.2.1, by omega, fun hx => ?_, fun h1 h2 q' hq => ?_, fun h1 h2 q' hq => ?_⟩)
      · have e : (List.replicate k.toNat ds).flatten = ds := by
          rcases hx with hx | hx
          · subst hx
            have : ds = [] := List.eq_nil_of_length_eq_zero (by simpa using la.symm)
            subst this
            simp
          · subst hx; simp
        rw [e] at q
        exact q _ H (Ex.refl R) (VR.shq rd)
      · have e : k.toNat = 0 := by omega
        rw [e] at q
        exact q _ _ (Ex.new R hq) (VR.newT R hq .nil)
      · exact q _ _ (Ex.new R hq) (VR.newT R hq (ra.rep _))
    · cases hg
  · rename_i d0 c0 k _ e1 e2
    split at hg
    · rename_i ds c i1
      split at hg
      · rename_i cc
        cases hg
        obtain ⟨a, xs, rfl, ta, ra⟩ := rx.items R0 R i1
        have la := ra.length
        rcases ta with ⟨_, e3, ha⟩ | ⟨_, e3, _⟩
        · exact .inr ⟨a, k, xs, rfl, rdI (ry.dat R0 R e2), ha, cc.1, cc.2.1, by rw [la]; exact cc.2.2, fun q' hq => q _ _ (Ex.new R hq) (VR.newL R hq (ra.rep _))⟩
        · rw [e1] at e3; cases e3
      · cases hg
    · cases hg
  · exact .inl (.inl (.inl (ops_mul F O A sl p0 p σ H0 H x y vx vy z Q R0 X0 R rx ry hg q)))
end Pu
namespace Pu
open PySem PySem.Spec PyProof.Rows L2

section
variable {X : Cx} {a b c e : Expr} {fa fb fc f : Ev} {pos : Pos}

/-! ### chains, and, or, not, if -/
/-- a op b op' c, b reckoned once -/
def chainE (g g' : Val → Val → Option Val) (fa fb fc : Ev) (sl : Sl) (p : Pot) : Option (Val × Pot) := match fa sl p with
  | some (x, p1) => (match fb sl p1 with
    | some (y, p2) => (match g x y with
      | some (.sh (.bool true)) => (match fc sl p2 with
        | some (z, p3) => (match g' y z with
          | some w => some (w, p3)
          | none => none)
        | none => none)
      | some (.sh (.bool false)) => some (.sh (.bool false), p2)
      | _ => none)
    | none => none)
  | none => none
theorem tE_chain {K : Fg} {r r' : R2} {g g' : Val → Val → Option Val} (hs : OpS K r g) (hs' : OpS K r' g') : ∀ σ H Q, tE K (chainE g g' fa fb fc) σ H Q → tChain r r' (tE K fa) (tE K fb) (tE K fc) σ H Q := fun σ H Q h => by
  obtain ⟨F, O, A, sl, p, val, p', R, hf, q⟩ := h
  unfold chainE at hf
  split at hf
  · rename_i x p1 e1
    split at hf
    · rename_i y p2 e2
      refine tE.get R e1 fun v H1 x1 r1 => ?_
      have R1 := R.exp x1
      refine tE.get R1 e2 fun u H2 x2 r2 => ?_
      have x12 := x1.trans x2
      have R2 := R.exp x12
      have ry := r2.back x1
      split at hf
      · rename_i e3
        refine hs F O A sl p p2 σ H H2 v u x y _ _ R x12 R2 (r1.exp R x2) ry e3 fun w' H3 x3 r3 => ?_
        have ew : w' = .bl true := rdB (K := K) (O := O) (H := H3) r3
        refine ⟨true, ew, iteT ?_⟩
        have x13 := x12.trans x3
        have R3 := R.exp x13
        split at hf
        · rename_i z p3 e4
          split at hf
          · rename_i w4 e5
            cases hf
            refine tE.get R3 e4 fun t H4 x4 r4 => ?_
            have x14 := x13.trans x4
            exact hs' F O A sl p p' σ H H4 u t y z val Q R x14 (R.exp x14) (ry.exp R (x3.trans x4)) (r4.back x13) e5 fun w5 H5 x5 r5 => q w5 H5 (x14.trans x5) (r5.back x14)
          · cases hf
        · cases hf
      · rename_i e3
        cases hf
        refine hs F O A sl p p' σ H H2 v u x y _ _ R x12 R2 (r1.exp R x2) ry e3 fun w' H3 x3 r3 => ?_
        have ew : w' = .bl false := rdB (K := K) (O := O) (H := H3) r3
        exact ⟨false, ew, iteF (q _ H3 (x12.trans x3) (show RD K O H3 (.bool false) (.bl false) from toB O H3))⟩
      · cases hf
    · cases hf
  · cases hf
theorem ce_chain {op op' : CmpOp} {r r' : R2} {g g' : Val → Val → Option Val} (ho : OpR X (compareOp op) r) (hs : OpS X.K r g) (ho' : OpR X (compareOp op') r') (hs' : OpS X.K r' g') (ha : CE X a fa) (hb : CE X b fb) (hc : CE X c fc)
    (hm : lastMarks [op, op'] [b, c] = false := by with_unfolding_all rfl) : CE X (.Compare a [op, op'] [b, c] pos) (chainE g g' fa fb fc) :=
  PEimp (pe_chain ho ho' ha hb hc hm) (tE_chain hs hs')
theorem ct_chain {op op' : CmpOp} {r r' : R2} {g g' : Val → Val → Option Val} (ho : OpR X (compareOp op) r) (hs : OpS X.K r g) (ho' : OpR X (compareOp op') r') (hs' : OpS X.K r' g') (ha : CE X a fa) (hb : CE X b fb) (hc : CE X c fc)
    (hm : lastMarks [op, op'] [b, c] = false := by with_unfolding_all rfl) : CT X (.Compare a [op, op'] [b, c] pos) (chainE g g' fa fb fc) :=
  PTimp (pt_chain ho ho' ha hb hc hm) fun σ H Q h => tE_chain hs hs' σ H _ (tT_of σ H Q h)

def andE (fa fb : Ev) (sl : Sl) (p : Pot) : Option (Val × Pot) := match fa sl p with
  | some (.sh (.bool true), p1) => fb sl p1
  | some (.sh (.bool false), p1) => some (.sh (.bool false), p1)
  | _ => none
def orE (fa fb : Ev) (sl : Sl) (p : Pot) : Option (Val × Pot) := match fa sl p with
  | some (.sh (.bool true), p1) => some (.sh (.bool true), p1)
  | some (.sh (.bool false), p1) => fb sl p1
  | _ => none
def notE (fa : Ev) (sl : Sl) (p : Pot) : Option (Val × Pot) := match fa sl p with
  | some (.sh (.bool b), p1) => some (.sh (.bool (!b)), p1)
  | _ => none
def ifE (fc fa fb : Ev) (sl : Sl) (p : Pot) : Option (Val × Pot) := match fc sl p with
  | some (.sh (.bool true), p1) => fa sl p1
  | some (.sh (.bool false), p1) => fb sl p1
  | _ => none
/-- and what comes behind a test -/
theorem tE_after {K : Fg} {F : Fc} {O : Pred} {A : Nat → Addr} {sl : Sl} {p p1 p' : Pot} {σ : L2.St} {H H1 : Hp} {val : Val} {Q : VK} (R : Rl K F O A sl p σ H) (x1 : Ex F H H1 p1) (hf : f sl p1 = some (val, p'))
    (q : ∀ v H', Ex F H H' p' → VR K F O A sl H H' v val → Q v H') : tE K f σ H1 Q :=
  tE.get (R.exp x1) hf fun v H' x r => q v H' (x1.trans x) (r.back x1)
theorem tT_after {K : Fg} {F : Fc} {O : Pred} {A : Nat → Addr} {sl : Sl} {p p1 p' : Pot} {σ : L2.St} {H H1 : Hp} {b : Bool} {Q : Bool → Hp → Prop} (R : Rl K F O A sl p σ H) (x1 : Ex F H H1 p1) (hf : f sl p1 = some (.sh (.bool b), p'))
    (q : ∀ H', Ex F H H' p' → Q b H') : tT K f σ H1 Q :=
  ⟨F, O, A, sl, p1, b, p', R.exp x1, hf, fun H' x => q H' (x1.trans x)⟩
theorem ce_one {op} (h : CE X a f) : CE X (.BoolOp op [a] pos) f := pe_one h
theorem ce_and {rest : List Expr} (ha : CE X a fa) (hb : CE X (.BoolOp .And (b :: rest) pos) fb) : CE X (.BoolOp .And (a :: b :: rest) pos) (andE fa fb) := PEimp (pe_and ha hb) fun σ H Q h => by
  obtain ⟨F, O, A, sl, p, val, p', R, hf, q⟩ := h
  unfold andE at hf
  split at hf
  · rename_i p1 e1
    refine tE.get R e1 fun v H1 x1 r1 => ⟨true, rdB (K := X.K) (O := O) (H := H1) r1, iteT (tE_after R x1 hf q)⟩
  · rename_i p1 e1
    cases hf
    exact tE.get R e1 fun v H1 x1 r1 => ⟨false, rdB (K := X.K) (O := O) (H := H1) r1, iteF (q _ H1 x1 (show RD X.K O H1 (.bool false) (.bl false) from toB O H1))⟩
  · cases hf
theorem ce_or {rest : List Expr} (ha : CE X a fa) (hb : CE X (.BoolOp .Or (b :: rest) pos) fb) : CE X (.BoolOp .Or (a :: b :: rest) pos) (orE fa fb) := PEimp (pe_or ha hb) fun σ H Q h => by
  obtain ⟨F, O, A, sl, p, val, p', R, hf, q⟩ := h
  unfold orE at hf
  split at hf
  · rename_i p1 e1
    cases hf
    exact tE.get R e1 fun v H1 x1 r1 => ⟨true, rdB (K := X.K) (O := O) (H := H1) r1, iteT (q _ H1 x1 (show RD X.K O H1 (.bool true) (.bl true) from toB O H1))⟩
  · rename_i p1 e1
    refine tE.get R e1 fun v H1 x1 r1 => ⟨false, rdB (K := X.K) (O := O) (H := H1) r1, iteF (tE_after R x1 hf q)⟩
  · cases hf
theorem ce_not (ha : CE X a fa) : CE X (.UnaryOp .Not a pos) (notE fa) := PEimp (pe_not ha) fun σ H Q h => by
  obtain ⟨F, O, A, sl, p, val, p', R, hf, q⟩ := h
  unfold notE at hf
  split at hf
  · rename_i b p1 e1
    cases hf
    exact tE.get R e1 fun v H1 x1 r1 => ⟨b, rdB (K := X.K) (O := O) (H := H1) r1, q _ H1 x1 (show RD X.K O H1 (.bool (!b)) (.bl (!b)) from toB O H1)⟩
  · cases hf
/-- .. as tests -/
structure CW (X : Cx) (e : Expr) (f : Ev) : Prop where
  w : PW X e (tT X.K f)
theorem CW.t (h : CW X e f) : CT X e f := h.w.pt
theorem PWimp {e : Expr} {t t' : TT} (h : PW X e t) (i : ∀ σ H Q, t' σ H Q → t σ H Q) : PW X e t' := ⟨fun wh pins s σ H Q I w => h.run wh pins s σ H Q I (i σ H Q w)⟩
theorem cw_and1 (ha : CT X a fa) : CW X (.BoolOp .And [a] pos) fa := ⟨pw_and1 ha⟩
theorem cw_or1 (ha : CT X a fa) : CW X (.BoolOp .Or [a] pos) fa := ⟨pw_or1 ha⟩
theorem cw_and {rest : List Expr} (ha : CT X a fa) (hb : CW X (.BoolOp .And (b :: rest) pos) fb) : CW X (.BoolOp .And (a :: b :: rest) pos) (andE fa fb) := ⟨PWimp (pw_and ha hb.w) fun σ H Q h => by
  obtain ⟨F, O, A, sl, p, bb, p', R, hf, q⟩ := h
  unfold andE at hf
  split at hf
  · rename_i p1 e1
    exact ⟨F, O, A, sl, p, true, p1, R, e1, fun H1 x1 => iteT (tT_after R x1 hf q)⟩
  · rename_i p1 e1
    cases hf
    exact ⟨F, O, A, sl, p, false, _, R, e1, fun H1 x1 => iteF (q H1 x1)⟩
  · cases hf⟩
theorem cw_or {rest : List Expr} (ha : CT X a fa) (hb : CW X (.BoolOp .Or (b :: rest) pos) fb) : CW X (.BoolOp .Or (a :: b :: rest) pos) (orE fa fb) := ⟨PWimp (pw_or ha hb.w) fun σ H Q h => by
  obtain ⟨F, O, A, sl, p, bb, p', R, hf, q⟩ := h
  unfold orE at hf
  split at hf
  · rename_i p1 e1
    cases hf
    exact ⟨F, O, A, sl, p, true, _, R, e1, fun H1 x1 => iteT (q H1 x1)⟩
  · rename_i p1 e1
    exact ⟨F, O, A, sl, p, false, p1, R, e1, fun H1 x1 => iteF (tT_after R x1 hf q)⟩
  · cases hf⟩
theorem ct_not (ha : CT X a fa) : CT X (.UnaryOp .Not a pos) (notE fa) := PTimp (pt_not ha) fun σ H Q h => by
  obtain ⟨F, O, A, sl, p, bb, p', R, hf, q⟩ := h
  unfold notE at hf
  split at hf
  · rename_i b p1 e1
    cases hf
    exact ⟨F, O, A, sl, p, b, _, R, e1, fun H1 x1 => q H1 x1⟩
  · cases hf
theorem ce_if (hc : CT X c fc) (ha : CE X a fa) (hb : CE X b fb) : CE X (.IfExp c a b pos) (ifE fc fa fb) := PEimp (pe_ifExp hc ha hb) fun σ H Q h => by
  obtain ⟨F, O, A, sl, p, val, p', R, hf, q⟩ := h
  unfold ifE at hf
  split at hf
  · rename_i p1 e1
    exact ⟨F, O, A, sl, p, true, p1, R, e1, fun H1 x1 => iteT (tE_after R x1 hf q)⟩
  · rename_i p1 e1
    exact ⟨F, O, A, sl, p, false, p1, R, e1, fun H1 x1 => iteF (tE_after R x1 hf q)⟩
  · cases hf

/-! ### one part -/
def UnS (K : Fg) (r : V → Hp → VK → Prop) (g : Val → Option Val) : Prop :=
  ∀ (F : Fc) (O : Pred) (A : Nat → Addr) (sl : Sl) (p0 p : Pot) (σ : L2.St) (H0 H : Hp) (x : V) (vx z : Val) (Q : VK), Rl K F O A sl p0 σ H0 → Ex F H0 H p → Rl K F O A sl p σ H → VR K F O A sl H0 H x vx → g vx = some z →
    (∀ v H', Ex F H H' p → VR K F O A sl H H' v z → Q v H') → r x H Q
def unE (g : Val → Option Val) (fa : Ev) (sl : Sl) (p : Pot) : Option (Val × Pot) := match fa sl p with
  | some (x, p1) => (match g x with
    | some z => some (z, p1)
    | none => none)
  | none => none
theorem tE_un {K : Fg} {r : V → Hp → VK → Prop} {g : Val → Option Val} (hs : UnS K r g) : ∀ σ H Q, tE K (unE g fa) σ H Q → tUn r (tE K fa) σ H Q := fun σ H Q h => by
  obtain ⟨F, O, A, sl, p, val, p', R, hf, q⟩ := h
  unfold unE at hf
  split at hf
  · rename_i x p1 e1
    split at hf
    · rename_i z e3
      cases hf
      refine tE.get R e1 fun v H1 x1 r1 => ?_
      exact hs F O A sl p p' σ H H1 v x val Q R x1 (R.exp x1) r1 e3 fun w' H3 x3 r3 => q w' H3 (x1.trans x3) (r3.back x1)
    · cases hf
  · cases hf
def negV : Val → Option Val
  | .sh (.int i) => some (.sh (.int (-i)))
  | _ => none
theorem ce_neg (ha : CE X a fa) : CE X (.UnaryOp .USub a pos) (unE negV fa) := PEimp (pe_un un_neg ha) (tE_un fun F O A sl p0 p σ H0 H x vx z Q R0 X0 R rx hg q => by
  unfold negV at hg
  split at hg
  · rename_i i
    cases hg
    exact ⟨i, rdI (K := X.K) (O := O) (H := H) rx, q _ H (Ex.refl R) (show RD X.K O H (.int (-i)) (.int (-i)) from toI O H)⟩
  · cases hg)

/-! ### arguments -/
def argsE : List Ev → Sl → Pot → Option (List Val × Pot)
  | [], _, p => some ([], p)
  | f :: fs, sl, p => match f sl p with
    | some (x, p1) => (match argsE fs sl p1 with
      | some (xs, p2) => some (x :: xs, p2)
      | none => none)
    | none => none
def VRs (K : Fg) (F : Fc) (O : Pred) (A : Nat → Addr) (sl : Sl) (H H' : Hp) : List V → List Val → Prop
  | [], [] => True
  | v :: vs, x :: xs => VR K F O A sl H H' v x ∧ VRs K F O A sl H H' vs xs
  | _, _ => False
def tA (K : Fg) (fs : List Ev) : TA := fun σ H Q => ∃ F O A sl p vals p', Rl K F O A sl p σ H ∧ argsE fs sl p = some (vals, p') ∧ ∀ vs H', Ex F H H' p' → VRs K F O A sl H H' vs vals → Q vs H'
abbrev CA (X : Cx) (es : List Expr) (fs : List Ev) : Prop := PA X es (tA X.K fs)
section
variable {K : Fg} {F : Fc} {O : Pred} {A : Nat → Addr} {sl : Sl} {p p' : Pot} {σ : L2.St} {H H' H1 H2 : Hp}
theorem VRs.exp (R : Rl K F O A sl p σ H) (x : Ex F H1 H2 p') : ∀ {vs : List V} {xs : List Val}, VRs K F O A sl H H1 vs xs → VRs K F O A sl H H2 vs xs
  | [], [], _ => True.intro
  | v :: vs, y :: xs, h => ⟨h.1.exp R x, VRs.exp R x h.2⟩
  | [], _ :: _, h => h.elim
  | _ :: _, [], h => h.elim
theorem VRs.back (y : Ex F H H1 p) : ∀ {vs : List V} {xs : List Val}, VRs K F O A sl H1 H2 vs xs → VRs K F O A sl H H2 vs xs
  | [], [], _ => True.intro
  | v :: vs, z :: xs, h => ⟨h.1.back y, VRs.back y h.2⟩
  | [], _ :: _, h => h.elim
  | _ :: _, [], h => h.elim
/-- the data of values, whether none reaches an owned slot -/
def datsOf : List Val → Option (List PyData × Bool)
  | [] => some ([], true)
  | x :: xs => match x.dat, datsOf xs with
    | some (d, c), some (ds, c') => some (d :: ds, c && c')
    | _, _ => none
theorem VRs.dats (R : Rl K F O A sl p σ H) (R' : Rl K F O A sl p' σ H') : ∀ {vs : List V} {xs : List Val} {ds : List PyData} {c : Bool}, VRs K F O A sl H H' vs xs → datsOf xs = some (ds, c) → RDs K (Oq O A sl c) H' ds vs
  | [], [], _, _, _, e => by cases e; exact .nil
  | v :: vs, x :: xs, ds, c, h, e => by
    unfold datsOf at e
    split at e
    · rename_i d c1 ds' c2 e1 e2
      cases e
      exact .cons (RD.both (h.1.dat R R' e1)) (RDs.both' (VRs.dats R R' h.2 e2))
    · cases e
  | [], _ :: _, _, _, h, _ => h.elim
  | _ :: _, [], _, _, h, _ => h.elim
end
theorem ca_nil : CA X [] [] := PAimp pa_nil fun σ H Q h => by
  obtain ⟨F, O, A, sl, p, vals, p', R, hf, q⟩ := h
  cases hf
  exact q [] H (Ex.refl R) True.intro
theorem ca_cons {es : List Expr} {fs : List Ev} (ha : CE X e f) (hr : CA X es fs) (hs : starEach (e :: es) X.env = (false, eval e X.env) :: starEach es X.env := by rfl) : CA X (e :: es) (f :: fs) := PAimp (pa_cons ha hr hs) fun σ H Q h => by
  obtain ⟨F, O, A, sl, p, vals, p', R, hf, q⟩ := h
  unfold argsE at hf
  split at hf
  · rename_i x p1 e1
    split at hf
    · rename_i xs p2 e2
      cases hf
      refine tE.get R e1 fun v H1 x1 r1 => ?_
      exact ⟨F, O, A, sl, p1, xs, p', R.exp x1, e2, fun vs H2 x2 r2 => q (v :: vs) H2 (x1.trans x2) ⟨r1.exp R x2, r2.back x1⟩⟩
    · cases hf
  · cases hf

/-! ### displays -/
def tupE (fs : List Ev) (sl : Sl) (p : Pot) : Option (Val × Pot) := match argsE fs sl p with
  | some (xs, p1) => (match datsOf xs with
    | some (ds, c) => if ds.length ≤ sizeLine then some (newT c ds, p1) else none
    | none => none)
  | none => none
def lstE (fs : List Ev) (sl : Sl) (p : Pot) : Option (Val × Pot) := match argsE fs sl p with
  | some (xs, p1) => (match datsOf xs with
    | some (ds, c) => if ds.length ≤ sizeLine then some (newL c ds, p1) else none
    | none => none)
  | none => none
theorem ce_tup {es : List Expr} {fs : List Ev} {x1} (h : CA X es fs) : CE X (.Tuple es x1 pos) (tupE fs) := PEimp (pe_tup h) fun σ H Q h => by
  obtain ⟨F, O, A, sl, p, val, p', R, hf, q⟩ := h
  unfold tupE at hf
  split at hf
  · rename_i xs p1 e1
    split at hf
    · rename_i ds c e2
      split at hf
      · rename_i hz
        cases hf
        refine ⟨F, O, A, sl, p, xs, _, R, e1, fun vs H1 x1 r1 => ?_⟩
        have R1 := R.exp x1
        have rd := r1.dats R R1 e2
        exact ⟨by rw [rd.length]; exact hz, fun a ha => q _ _ (x1.trans (Ex.new R1 ha)) ((VR.newT R1 ha rd).back x1)⟩
      · cases hf
    · cases hf
  · cases hf
theorem ce_lst {es : List Expr} {fs : List Ev} (h : CA X es fs) : CE X (.List es pos) (lstE fs) := PEimp (pe_lst h) fun σ H Q h => by
  obtain ⟨F, O, A, sl, p, val, p', R, hf, q⟩ := h
  unfold lstE at hf
  split at hf
  · rename_i xs p1 e1
    split at hf
    · rename_i ds c e2
      split at hf
      · rename_i hz
        cases hf
        refine ⟨F, O, A, sl, p, xs, _, R, e1, fun vs H1 x1 r1 => ?_⟩
        have R1 := R.exp x1
        have rd := r1.dats R R1 e2
        exact ⟨by rw [rd.length]; exact hz, fun a ha => q _ _ (x1.trans (Ex.new R1 ha)) ((VR.newL R1 ha rd).back x1)⟩
      · cases hf
    · cases hf
  · cases hf
end
end Pu
namespace Pu
open PySem PySem.Spec PyProof.Rows L2

section
variable {X : Cx} {a b c e : Expr} {fa fb fc f : Ev} {pos p2 : Pos} {x : Str} {pn : Pos}

/-! ### places -/
theorem IxR.or {r r' : R2} (h : IxR X r) (h' : IxR X r') : IxR X (fun x y H Q => r x y H Q ∨ r' x y H Q) := by
  intro value slice pins s σ H x y v u Q I rx ry q hs
  rcases q with q | q
  · exact h value slice pins s σ H x y v u Q I rx ry q hs
  · exact h' value slice pins s σ H x y v u Q I rx ry q hs
def ixV (x y : Val) : Option Val := match y.dat with
  | some (.int i, _) => (match x.dat with
    | some (.str z, _) => if z.length ≤ sizeLine then (atI z.cps.toList i).map fun c => .sh (.str ⟨#[c]⟩) else none
    | _ => (match x.items with
      | some (ds, c) => (atI ds i).map (shf c)
      | none => none))
  | _ => none
theorem atI_get {α : Type} {xs : List α} {i : Int} {v : α} (h : atI xs i = some v) : ∃ j : Nat, ixN xs.length i = some j ∧ xs[j]? = some v := by
  unfold atI at h
  cases e : ixN xs.length i with
  | none => rw [e] at h; cases h
  | some j => rw [e] at h; exact ⟨j, rfl, h⟩
theorem RDs.atI {K : Fg} {O : Pred} {H : Hp} {ds : List PyData} {vs : List V} {i : Int} {d : PyData} (r : RDs K O H ds vs) (h : L2.atI ds i = some d) : ∃ v, L2.atI vs i = some v ∧ RD K O H d v := by
  obtain ⟨j, h1, h2⟩ := atI_get h
  obtain ⟨v, h3, h4⟩ := r.get h2
  refine ⟨v, ?_, h4⟩
  unfold L2.atI
  rw [r.length, h1]
  exact h3
theorem opr_ix : IxR X (fun x y H Q => (rIxL X.K x y H Q ∨ rIxT X.K x y H Q) ∨ rIxS x y H Q) := IxR.or (IxR.or ix_list ix_tup) ix_str
theorem ops_ix {K : Fg} : OpS K (fun x y H Q => (rIxL K x y H Q ∨ rIxT K x y H Q) ∨ rIxS x y H Q) ixV := by
  intro F O A sl p0 p σ H0 H x y vx vy z Q R0 X0 R rx ry hg q
  unfold ixV at hg
  split at hg
  · rename_i i _ e1
    have ey := rdI (ry.dat R0 R e1)
    split at hg
    · rename_i zz _ e2
      have ex := rdS (rx.dat R0 R e2)
      split at hg
      · rename_i hz
        obtain ⟨ch, h1, h2⟩ := Option.map_eq_some_iff.mp hg
        subst h2
        exact .inr ⟨zz, i, ch, ex, ey, hz, h1, q _ H (Ex.refl R) (show RD K O H _ (.str ⟨#[ch]⟩) from toS O H)⟩
      · cases hg
    · split at hg
      · rename_i ds c i1
        obtain ⟨d, h1, h2⟩ := Option.map_eq_some_iff.mp hg
        subst h2
        obtain ⟨l, vs, e3, t, r⟩ := rx.items R0 R i1
        obtain ⟨v, h3, h4⟩ := r.atI h1
        have fin := q v H (Ex.refl R) (VR.shf h4)
        rcases t with ⟨_, _, ha⟩ | ⟨_, _, ha⟩
        · exact .inl (.inl ⟨l, vs, i, v, e3, ey, SqL.of ha, h3, fin⟩)
        · exact .inl (.inr ⟨l, vs, i, v, e3, ey, ha, h3, fin⟩)
      · cases hg
  · cases hg
theorem ce_ix (ha : CE X a fa) (hb : CE X b fb) (hs : PlainIx b := by exact fun _ _ => rfl) : CE X (.Subscript a b pos) (binE ixV fa fb) := PEimp (pe_ix opr_ix ha hb hs) (tE_bin ops_ix)

/-! ### slices -/
def optE : Option Ev → Sl → Pot → Option (Option Int × Pot)
  | none, _, p => some (none, p)
  | some f, sl, p => match f sl p with
    | some (.sh (.int i), p1) => some (some i, p1)
    | _ => none
def tO (K : Fg) (f : Option Ev) : TO := fun σ H Q => ∃ F O A sl p o p', Rl K F O A sl p σ H ∧ optE f sl p = some (o, p') ∧ ∀ H', Ex F H H' p' → Q o H'
theorem POimp {e : Option Expr} {t t' : TO} (h : PO X e t) (i : ∀ σ H Q, t' σ H Q → t σ H Q) : PO X e t' := ⟨fun pins s σ H Q I w => h.run pins s σ H Q I (i σ H Q w)⟩
theorem co_none : PO X none (tO X.K none) := POimp po_none fun σ H Q h => by
  obtain ⟨F, O, A, sl, p, o, p', R, hf, q⟩ := h
  cases hf
  exact q H (Ex.refl R)
theorem co_some (ha : CE X a fa) : PO X (some a) (tO X.K (some fa)) := POimp (po_some ha) fun σ H Q h => by
  obtain ⟨F, O, A, sl, p, o, p', R, hf, q⟩ := h
  simp only [optE] at hf
  split at hf
  · rename_i i p1 e1
    cases hf
    exact tE.get R e1 fun v H' x r => ⟨i, rdI (K := X.K) (O := O) (H := H') r, q H' x⟩
  · cases hf
def cutD (xs : List PyData) (lo hi : Option Int) : List PyData := (xs.drop (HT.sIx xs.length 0 lo)).take (HT.sIx xs.length xs.length hi - HT.sIx xs.length 0 lo)
theorem RDs.cut {K : Fg} {O : Pred} {H : Hp} {ds : List PyData} {vs : List V} {lo hi : Option Int} (r : RDs K O H ds vs) : RDs K O H (cutD ds lo hi) (cutV vs lo hi) := by
  unfold cutD cutV
  rw [r.length]
  exact (r.drop _).take _
def slV (x : Val) (lo hi : Option Int) : Option Val := match x.dat with
  | some (.str z, _) => if z.length ≤ sizeLine then some (.sh (.str (cutS z lo hi))) else none
  | some (.tuple ds, c) => some (shq c (.tuple (cutD ds lo hi)))
  | some (.list _, _) => (match x.items with
    | some (ds, c) => some (newL c (cutD ds lo hi))
    | none => none)
  | _ => none
def slE (fa : Ev) (lo hi : Option Ev) (sl : Sl) (p : Pot) : Option (Val × Pot) := match fa sl p with
  | some (x, p1) => (match optE lo sl p1 with
    | some (l, p2) => (match optE hi sl p2 with
      | some (h, p3) => (match slV x l h with
        | some z => some (z, p3)
        | none => none)
      | none => none)
    | none => none)
  | none => none
theorem slr : SlR X (fun x lo hi H Q => (rSlL X.K x lo hi H Q ∨ rSlA X.K x lo hi H Q) ∨ rSlS x lo hi H Q) := SlR.or (SlR.or sl_list sl_tupA) sl_str
theorem ce_slice {lo hi : Option Expr} {fl fh : Option Ev} (ha : CE X a fa) (hl : PO X lo (tO X.K fl)) (hh : PO X hi (tO X.K fh)) : CE X (.Subscript a (.Slice lo hi none p2) pos) (slE fa fl fh) := PEimp (pe_slice slr ha hl hh) fun σ H Q h => by
  obtain ⟨F, O, A, sl, p, val, p', R, hf, q⟩ := h
  unfold slE at hf
  split at hf
  · rename_i x p1 e1
    split at hf
    · rename_i l p2 e2
      split at hf
      · rename_i h p3 e3
        split at hf
        · rename_i z e4
          cases hf
          refine tE.get R e1 fun v H1 x1 r1 => ⟨F, O, A, sl, p1, l, p2, R.exp x1, e2, fun H2 x2 => ⟨F, O, A, sl, p2, h, p', R.exp (x1.trans x2), e3, fun H3 x3 => ?_⟩⟩
          have x13 := (x1.trans x2).trans x3
          have R3 := R.exp x13
          have rx := (r1.exp R x2).exp R x3
          unfold slV at e4
          split at e4
          · rename_i zz _ e5
            split at e4
            · rename_i hz
              cases e4
              exact .inr ⟨zz, rdS (rx.dat R R3 e5), hz, q _ H3 x13 (show RD X.K O H3 _ (.str (cutS zz l h)) from toS O H3)⟩
            · cases e4
          · rename_i ds c e5
            cases e4
            obtain ⟨t, vs, e6, ht, r⟩ := rx.tupItems R R3 e5
            refine .inl (.inr ⟨t, vs, e6, ht, fun hw => ?_, fun hw q' hq => ?_⟩)
            · have ed : cutD ds l h = ds := by
                unfold cutD
                rw [r.length] at hw
                rw [hw.1, hw.2]
                simp
              rw [ed] at q
              have := rx.dat R R3 e5
              rw [e6] at this
              exact q _ H3 x13 (VR.shq this)
            · exact q _ _ (x13.trans (Ex.new R3 hq)) ((VR.newT R3 hq r.cut).back x13)
          · rename_i e8
            split at e4
            · rename_i ds c i1
              cases e4
              obtain ⟨t, vs, e6, ht, r⟩ := rx.items R R3 i1
              rcases ht with ⟨_, _, ha⟩ | ⟨_, e7, ha⟩
              · exact .inl (.inl ⟨t, vs, e6, SqL.of ha, fun q' hq => q _ _ (x13.trans (Ex.new R3 hq)) ((VR.newL R3 hq r.cut).back x13)⟩)
              · rw [e8] at e7; cases e7
            · cases e4
          · cases e4
        · cases hf
      · cases hf
    · cases hf
  · cases hf

/-! ### calls of built-ins -/
def CallS (K : Fg) (r : List V → Hp → VK → Prop) (g : List Val → Option Val) : Prop :=
  ∀ (F : Fc) (O : Pred) (A : Nat → Addr) (sl : Sl) (p0 p : Pot) (σ : L2.St) (H0 H : Hp) (vs : List V) (xs : List Val) (z : Val) (Q : VK), Rl K F O A sl p0 σ H0 → Ex F H0 H p → Rl K F O A sl p σ H → VRs K F O A sl H0 H vs xs → g xs = some z →
    (∀ v H', Ex F H H' p → VR K F O A sl H H' v z → Q v H') → r vs H Q
def callE (g : List Val → Option Val) (fs : List Ev) (sl : Sl) (p : Pot) : Option (Val × Pot) := match argsE fs sl p with
  | some (xs, p1) => (match g xs with
    | some z => some (z, p1)
    | none => none)
  | none => none
theorem tE_call {K : Fg} {r : List V → Hp → VK → Prop} {g : List Val → Option Val} {fs : List Ev} (hs : CallS K r g) : ∀ σ H Q, tE K (callE g fs) σ H Q → tCB r (tA K fs) σ H Q := fun σ H Q h => by
  obtain ⟨F, O, A, sl, p, val, p', R, hf, q⟩ := h
  unfold callE at hf
  split at hf
  · rename_i xs p1 e1
    split at hf
    · rename_i z e2
      cases hf
      refine ⟨F, O, A, sl, p, xs, _, R, e1, fun vs H1 x1 r1 => ?_⟩
      exact hs F O A sl p p' σ H H1 vs xs val Q R x1 (R.exp x1) r1 e2 fun v H2 x2 r2 => q v H2 (x1.trans x2) (r2.back x1)
    · cases hf
  · cases hf
theorem ce_callB {id : String} {r : List V → Hp → VK → Prop} {g : List Val → Option Val} {es : List Expr} {fs : List Ev} (hc : CallR X (.builtin id) r) (hs : CallS X.K r g) (hm : X.mg x = none) (hv : bootBuiltins x = some (.builtin id)) (ha : CA X (e :: es) fs)
    (hg : Gl X x := by rfl) (hn : x ≠ "__name__" := by decide) (hdb : (x == ("__debug__" : Str)) = false := by decide)
    (he : starEach (e :: es) X.env = (false, eval e X.env) :: starEach es X.env := by rfl) (hpl : (backTo pos (starEach es X.env)).any (·.1) = false := by rfl) : CE X (.Call (.Name x pn) (e :: es) [] pos) (callE g fs) :=
  PEimp (pe_callB hc hg hm hv ha hn hdb he hpl) (tE_call hs)
theorem ce_callTy {T : String} {r : List V → Hp → VK → Prop} {g : List Val → Option Val} {es : List Expr} {fs : List Ev} (hc : CallR X (.type T) r) (hs : CallS X.K r g) (hm : X.mg x = none) (hv : bootBuiltins x = some (.type T)) (ha : CA X (e :: es) fs)
    (hg : Gl X x := by rfl) (hn : x ≠ "__name__" := by decide) (hdb : (x == ("__debug__" : Str)) = false := by decide)
    (he : starEach (e :: es) X.env = (false, eval e X.env) :: starEach es X.env := by rfl) (hpl : (backTo pos (starEach es X.env)).any (·.1) = false := by rfl) : CE X (.Call (.Name x pn) (e :: es) [] pos) (callE g fs) :=
  PEimp (pe_callTy hc hg hm hv ha hn hdb he hpl) (tE_call hs)
theorem CallR.or {f : Value} {r r' : List V → Hp → VK → Prop} (h : CallR X f r) (h' : CallR X f r') : CallR X f (fun vs H Q => r vs H Q ∨ r' vs H Q) := by
  intro pins s σ H xs us Q I rs q
  rcases q with q | q
  · exact h pins s σ H xs us Q I rs q
  · exact h' pins s σ H xs us Q I rs q

section
variable {K : Fg} {F : Fc} {O : Pred} {A : Nat → Addr} {sl : Sl} {p p' : Pot} {σ : L2.St} {H H' : Hp}
theorem VRs.one {vs : List V} {y : Val} (h : VRs K F O A sl H H' vs [y]) : ∃ v, vs = [v] ∧ VR K F O A sl H H' v y := by
  cases vs with
  | nil => exact h.elim
  | cons v t => cases t with
    | nil => exact ⟨v, rfl, h.1⟩
    | cons _ _ => exact h.2.elim
theorem VRs.two {vs : List V} {y z : Val} (h : VRs K F O A sl H H' vs [y, z]) : ∃ v u, vs = [v, u] ∧ VR K F O A sl H H' v y ∧ VR K F O A sl H H' u z := by
  cases vs with
  | nil => exact h.elim
  | cons v t =>
    obtain ⟨u, e, r⟩ := VRs.one h.2
    subst e
    exact ⟨v, u, rfl, h.1, r⟩
theorem VRs.three {vs : List V} {y z w : Val} (h : VRs K F O A sl H H' vs [y, z, w]) : ∃ v u t, vs = [v, u, t] ∧ VR K F O A sl H H' v y ∧ VR K F O A sl H H' u z ∧ VR K F O A sl H H' t w := by
  cases vs with
  | nil => exact h.elim
  | cons v t =>
    obtain ⟨u, t', e, r, r'⟩ := VRs.two h.2
    subst e
    exact ⟨v, u, t', rfl, h.1, r, r'⟩
end

/-- len -/
def lenV : List Val → Option Val
  | [x] => (match x.dat with
    | some (.str z, _) => if z.length ≤ sizeLine then some (.sh (.int z.length)) else none
    | _ => (match x.items with
      | some (ds, _) => some (.sh (.int ds.length))
      | none => none))
  | _ => none
theorem cs_len {K : Fg} : CallS K (fun xs H Q => ∃ x n, xs = [x] ∧ LenV K x H n ∧ Q (.int n) H) lenV := by
  intro F O A sl p0 p σ H0 H vs xs z Q R0 X0 R rs hg q
  unfold lenV at hg
  split at hg
  · rename_i x
    obtain ⟨v, rfl, r⟩ := rs.one
    split at hg
    · rename_i zz _ e1
      split at hg
      · rename_i hz
        cases hg
        have ev := rdS (r.dat R0 R e1)
        subst ev
        exact ⟨_, zz.length, rfl, ⟨hz, rfl⟩, q _ H (Ex.refl R) (show RD K O H _ (.int _) from toI O H)⟩
      · cases hg
    · split at hg
      · rename_i ds c i1
        cases hg
        obtain ⟨l, us, rfl, t, rd⟩ := r.items R0 R i1
        have hl := rd.length
        refine ⟨_, ds.length, rfl, ?_, q _ H (Ex.refl R) (show RD K O H _ (.int _) from toI O H)⟩
        rcases t with ⟨_, _, ha⟩ | ⟨_, _, ha⟩
        · exact .inl ⟨us, SqL.of ha, hl.symm⟩
        · exact .inr ⟨us, ha, hl.symm⟩
      · cases hg
  · cases hg

/-- from data to a flat datum -/
def cF (k : List PyData → Option PyData) : List Val → Option Val := fun xs => match datsOf xs with
  | some (ds, _) => (match k ds with
    | some z => if flat z = true then some (.sh z) else none
    | none => none)
  | none => none
theorem cs_flat {K : Fg} {r : List V → Hp → VK → Prop} {k : List PyData → Option PyData}
    (h : ∀ (O1 : Pred) (H : Hp) (vs : List V) (ds : List PyData) (z : PyData) (Q : VK), RDs K O1 H ds vs → k ds = some z → (∀ v, (∀ O H, RD K O H z v) → Q v H) → r vs H Q) : CallS K r (cF k) := by
  intro F O A sl p0 p σ H0 H vs xs z Q R0 X0 R rs hg q
  unfold cF at hg
  split at hg
  · rename_i ds c e1
    split at hg
    · rename_i z' e2
      split at hg
      · rename_i fl
        cases hg
        exact h _ H vs ds z' Q (rs.dats R0 R e1) e2 fun v hv => q v H (Ex.refl R) (hv _ _)
      · cases hg
    · cases hg
  · cases hg
theorem rds1 {K : Fg} {O1 : Pred} {H : Hp} {d : PyData} {vs : List V} (r : RDs K O1 H [d] vs) : ∃ v, vs = [v] ∧ RD K O1 H d v := by
  simp only [RDs] at r
  obtain ⟨v, t, rfl, h, rfl⟩ := r
  exact ⟨v, rfl, h⟩
theorem rds2 {K : Fg} {O1 : Pred} {H : Hp} {d e : PyData} {vs : List V} (r : RDs K O1 H [d, e] vs) : ∃ v u, vs = [v, u] ∧ RD K O1 H d v ∧ RD K O1 H e u := by
  simp only [RDs] at r
  obtain ⟨v, t, rfl, h, u, t', rfl, h2, rfl⟩ := r
  exact ⟨v, u, rfl, h, h2⟩
def absK : List PyData → Option PyData
  | [.int i] => some (.int (if i < 0 then -i else i))
  | _ => none
theorem cs_abs {K : Fg} : CallS K (fun xs H Q => ∃ i, xs = [.int i] ∧ Q (.int (if i < 0 then -i else i)) H) (cF absK) := cs_flat fun O1 H vs ds z Q r hz q => by
  unfold absK at hz
  split at hz
  · cases hz
    obtain ⟨v, rfl, h⟩ := rds1 r
    exact ⟨_, by rw [rdI h], q _ toI⟩
  · cases hz
def maxK : List PyData → Option PyData
  | [.int i, .int j] => some (.int (if j > i then j else i))
  | _ => none
def minK : List PyData → Option PyData
  | [.int i, .int j] => some (.int (if j < i then j else i))
  | _ => none
theorem cs_max2 {K : Fg} : CallS K (fun xs H Q => ∃ i j, xs = [.int i, .int j] ∧ Q (.int (if j > i then j else i)) H) (cF maxK) := cs_flat fun O1 H vs ds z Q r hz q => by
  unfold maxK at hz
  split at hz
  · cases hz
    obtain ⟨v, u, rfl, h, h2⟩ := rds2 r
    exact ⟨_, _, by rw [rdI h, rdI h2], q _ toI⟩
  · cases hz
theorem cs_min2 {K : Fg} : CallS K (fun xs H Q => ∃ i j, xs = [.int i, .int j] ∧ Q (.int (if j < i then j else i)) H) (cF minK) := cs_flat fun O1 H vs ds z Q r hz q => by
  unfold minK at hz
  split at hz
  · cases hz
    obtain ⟨v, u, rfl, h, h2⟩ := rds2 r
    exact ⟨_, _, by rw [rdI h, rdI h2], q _ toI⟩
  · cases hz
def intK : List PyData → Option PyData
  | [.int i] => some (.int i)
  | [.bool b] => some (.int (if b then 1 else 0))
  | _ => none
theorem cs_int {K : Fg} : CallS K (fun xs H Q => (∃ i, xs = [.int i] ∧ Q (.int i) H) ∨ ∃ k, xs = [.bl k] ∧ Q (.int (if k then 1 else 0)) H) (cF intK) := cs_flat fun O1 H vs ds z Q r hz q => by
  unfold intK at hz
  split at hz
  · cases hz
    obtain ⟨v, rfl, h⟩ := rds1 r
    exact .inl ⟨_, by rw [rdI h], q _ toI⟩
  · cases hz
    obtain ⟨v, rfl, h⟩ := rds1 r
    exact .inr ⟨_, by rw [rdB h], q _ toI⟩
  · cases hz
/-- the bools, the ints of a list -/
def boolsOf : List PyData → Option (List Bool)
  | [] => some []
  | .bool b :: r => (boolsOf r).map (b :: ·)
  | _ => none
def intsOf : List PyData → Option (List Int)
  | [] => some []
  | .int b :: r => (intsOf r).map (b :: ·)
  | _ => none
def strsOf : List PyData → Option (List Str)
  | [] => some []
  | .str b :: r => (strsOf r).map (b :: ·)
  | _ => none
theorem boolsOf_map (bs : List Bool) : boolsOf (bs.map .bool) = some bs := by
  induction bs with
  | nil => rfl
  | cons b bs ih => simp only [List.map_cons, boolsOf, ih, Option.map_some]
theorem intsOf_map (bs : List Int) : intsOf (bs.map .int) = some bs := by
  induction bs with
  | nil => rfl
  | cons b bs ih => simp only [List.map_cons, intsOf, ih, Option.map_some]
theorem strsOf_map (bs : List Str) : strsOf (bs.map .str) = some bs := by
  induction bs with
  | nil => rfl
  | cons b bs ih => simp only [List.map_cons, strsOf, ih, Option.map_some]
theorem of_boolsOf : ∀ {ds : List PyData} {bs : List Bool}, boolsOf ds = some bs → ds = bs.map .bool
  | [], _, h => by cases h; rfl
  | d :: ds, _, h => by
    cases d with
    | bool b =>
      obtain ⟨r, h1, rfl⟩ := Option.map_eq_some_iff.mp h
      rw [List.map_cons, of_boolsOf h1]
    | _ => cases h
theorem of_intsOf : ∀ {ds : List PyData} {bs : List Int}, intsOf ds = some bs → ds = bs.map .int
  | [], _, h => by cases h; rfl
  | d :: ds, _, h => by
    cases d with
    | int b =>
      obtain ⟨r, h1, rfl⟩ := Option.map_eq_some_iff.mp h
      rw [List.map_cons, of_intsOf h1]
    | _ => cases h
theorem of_strsOf : ∀ {ds : List PyData} {bs : List Str}, strsOf ds = some bs → ds = bs.map .str
  | [], _, h => by cases h; rfl
  | d :: ds, _, h => by
    cases d with
    | str b =>
      obtain ⟨r, h1, rfl⟩ := Option.map_eq_some_iff.mp h
      rw [List.map_cons, of_strsOf h1]
    | _ => cases h
def allK : List PyData → Option PyData
  | [.list ds] => (boolsOf ds).map fun bs => .bool (bs.all id)
  | _ => none
def anyK : List PyData → Option PyData
  | [.list ds] => (boolsOf ds).map fun bs => .bool (bs.any id)
  | _ => none
def sumK : List PyData → Option PyData
  | [.list ds] => (intsOf ds).map fun bs => .int bs.sum
  | _ => none
theorem rdL {K : Fg} {O1 : Pred} {H : Hp} {ds : List PyData} {v : V} (h : RD K O1 H (.list ds) v) : ∃ a vs, v = .ref a ∧ SqL K H a vs ∧ RDs K O1 H ds vs := by
  simp only [RD] at h
  obtain ⟨a, vs, e, _, h1, h2⟩ := h
  exact ⟨a, vs, e, SqL.of h1, h2⟩
theorem cs_all {K : Fg} : CallS K (rAll K) (cF allK) := cs_flat fun O1 H vs ds z Q r hz q => by
  unfold allK at hz
  split at hz
  · rename_i es
    obtain ⟨bs, h1, rfl⟩ := Option.map_eq_some_iff.mp hz
    obtain ⟨v, rfl, h⟩ := rds1 r
    obtain ⟨a, us, rfl, h2, h3⟩ := rdL h
    rw [of_boolsOf h1] at h3
    rw [RDs.of_bools h3] at h2
    exact ⟨a, bs, rfl, h2, q _ toB⟩
  · cases hz
theorem cs_any {K : Fg} : CallS K (rAny K) (cF anyK) := cs_flat fun O1 H vs ds z Q r hz q => by
  unfold anyK at hz
  split at hz
  · rename_i es
    obtain ⟨bs, h1, rfl⟩ := Option.map_eq_some_iff.mp hz
    obtain ⟨v, rfl, h⟩ := rds1 r
    obtain ⟨a, us, rfl, h2, h3⟩ := rdL h
    rw [of_boolsOf h1] at h3
    rw [RDs.of_bools h3] at h2
    exact ⟨a, bs, rfl, h2, q _ toB⟩
  · cases hz
theorem cs_sum {K : Fg} : CallS K (rSum K) (cF sumK) := cs_flat fun O1 H vs ds z Q r hz q => by
  unfold sumK at hz
  split at hz
  · rename_i es
    obtain ⟨bs, h1, rfl⟩ := Option.map_eq_some_iff.mp hz
    obtain ⟨v, rfl, h⟩ := rds1 r
    obtain ⟨a, us, rfl, h2, h3⟩ := rdL h
    rw [of_intsOf h1] at h3
    rw [RDs.of_ints h3] at h2
    exact ⟨a, bs, rfl, h2, q _ toI⟩
  · cases hz

/-! ### isinstance -/
def tname : PyData → String
  | .none => "NoneType"
  | .bool _ => "bool"
  | .int _ => "int"
  | .str _ => "str"
  | .list _ => "list"
  | .tuple _ => "tuple"
  | .dict _ => "dict"
theorem RD.ty {K : Fg} {O1 : Pred} {H : Hp} {d : PyData} {v : V} (r : RD K O1 H d v) : TyX K H v (.type (tname d)) := by
  cases d with
  | none => rw [rdN r]; exact .base .non
  | bool b => rw [rdB r]; exact .base (.bl b)
  | int i => rw [rdI r]; exact .base (.int i)
  | str i => rw [rdS r]; exact .base (.str i)
  | list ds =>
    simp only [RD] at r
    obtain ⟨a, vs, rfl, _, h, _⟩ := r
    exact .base (.lst h)
  | tuple ds =>
    simp only [RD] at r
    obtain ⟨a, vs, rfl, h, _⟩ := r
    rcases h with ⟨_, h⟩ | ⟨o, its, n, h1, h2, _⟩
    · exact .base (.tup h)
    · exact .kTuple h1 h2
  | dict kvs =>
    simp only [RD] at r
    obtain ⟨a, rfl, _, h⟩ := r
    rcases h with ⟨kv, h, _⟩ | ⟨kv, h, _⟩
    · exact .base (.dK h)
    · exact .base (.dT h)
/-- isinstance of a datum and the classes so named -/
def isiB (d : PyData) : String → Option Bool
  | "int" => some (match d with | .int _ => true | .bool _ => true | _ => false)
  | "bool" => some (match d with | .bool _ => true | _ => false)
  | "str" => some (match d with | .str _ => true | _ => false)
  | "list" => some (match d with | .list _ => true | _ => false)
  | "tuple" => some (match d with | .tuple _ => true | _ => false)
  | "dict" => some (match d with | .dict _ => true | _ => false)
  | _ => none
theorem isiB_kit {K : Fg} {d : PyData} {T : String} {b : Bool} (h : isiB d T = some b) : PySem.W.kitOne K (.type (tname d)) (.type T) = some b := by
  refine kit_ty ?_
  unfold isiB at h
  split at h
  all_goals first | (cases h; done) | (cases h; cases d <;> (dsimp only [tname]; decide +kernel))
def isiE (T : String) (fa : Ev) (sl : Sl) (p : Pot) : Option (Val × Pot) := match fa sl p with
  | some (x, p1) => (match x.dat with
    | some (d, _) => (match isiB d T with
      | some b => some (.sh (.bool b), p1)
      | none => none)
    | none => none)
  | none => none
theorem ce_isi {T : String} {y : Str} {py : Pos} (ha : CE X a fa) (hm : X.mg "isinstance" = none) (hy : X.mg y = none) (hv : bootBuiltins y = some (.type T)) (hg : Gl X "isinstance" := by rfl) (hgy : Gl X y := by rfl) (hn : y ≠ "__name__" := by decide) (hd : (y == ("__debug__" : Str)) = false := by decide)
    (h1 : starEach [a, .Name y py] X.env = (false, eval a X.env) :: starEach [.Name y py] X.env := by rfl) (h2 : starEach [.Name y py] X.env = (false, eval (.Name y py) X.env) :: starEach [] X.env := by rfl)
    (h3 : (backTo pos (starEach [.Name y py] X.env)).any (·.1) = false := by rfl) : CE X (.Call (.Name "isinstance" pn) [a, .Name y py] [] pos) (isiE T fa) :=
  PEimp (pe_callB call_isi hg hm (by decide +kernel) (pa_cons ha (pa_cons (pe_bltn (v := .ty T) hgy hy hv rfl hn hd) pa_nil h2) h1) (by decide) (by decide) h1 h3) fun σ H Q h => by
    obtain ⟨F, O, A, sl, p, val, p', R, hf, q⟩ := h
    unfold isiE at hf
    split at hf
    · rename_i x p1 e1
      split at hf
      · rename_i d c e2
        split at hf
        · rename_i b e3
          cases hf
          refine tE.get R e1 fun v H1 x1 r1 => ?_
          exact ⟨v, .ty T, _, _, b, rfl, .ty T, RD.ty (r1.dat R (R.exp x1) e2), isiB_kit e3, q _ H1 x1 (show RD X.K O H1 (.bool b) (.bl b) from toB O H1)⟩
        · cases hf
      · cases hf
    · cases hf
end
end Pu
namespace Pu
open PySem PySem.Spec PyProof.Rows L2

/-! ### slots: frozen, stored -/
def frzS : Slot → Slot
  | .own c => .sh c
  | .iso c => .sh c
  | s => s
def frz1 (j : Nat) (sl : Sl) : Sl := match sl[j]? with
  | some s => sl.set j (frzS s)
  | none => sl
/-- the value is stored at slot i -/
def asg (i : Nat) (v : Val) (sl : Sl) : Option Sl := if i < sl.length then (match v with
  | .sh d => some (sl.set i (.sh d))
  | .fr c => some (sl.set i (.own c))
  | .is c => some (sl.set i (.iso c))
  | .pot => some (sl.set i .pot)
  | .ow j c => some ((frz1 j sl).set i (.sh c))
  | .bo d => some ((sl.map frzS).set i (.sh d))) else none

section
variable {K : Fg} {F : Fc} {O : Pred} {A : Nat → Addr} {sl sl' : Sl} {p p' : Pot} {σ : L2.St} {H H' : Hp}
theorem frzS_box (s : Slot) : isBox (frzS s) = false := by cases s <;> rfl
theorem Rl.frzAll (R : Rl K F O A sl p σ H) : Rl K F (Ob O A sl) A (sl.map frzS) p σ H := by
  refine ⟨fun b h => R.dom b h.1, R.boOc, R.cd, R.apO, R.ext, R.pot, fun i s e => ?_, fun i j s t e b => ?_, by rw [List.length_map]; exact R.len⟩
  · rw [List.getElem?_map] at e
    obtain ⟨s0, e0, rfl⟩ := Option.map_eq_some_iff.mp e
    have q := R.slot i s0 e0
    cases s0 with
    | un => exact True.intro
    | sh d => obtain ⟨v, e1, r⟩ := q; exact ⟨v, e1, r.map Ob_map⟩
    | own c =>
      obtain ⟨e1, r, o, z⟩ := q
      exact ⟨_, e1, RC.rd (r.map Ob_map fun _ h => h) fun h => h.2 i _ e0 rfl rfl⟩
    | iso c =>
      obtain ⟨e1, r, o, z, t⟩ := q
      exact ⟨_, e1, r.map fun b x n e => ⟨fun h => n ⟨h.1, h.2 i _ e0 rfl⟩, e⟩⟩
    | pot => exact q
  · rw [List.getElem?_map] at e
    obtain ⟨s0, e0, rfl⟩ := Option.map_eq_some_iff.mp e
    rw [frzS_box] at b; cases b
theorem Rl.frz1 (R : Rl K F O A sl p σ H) {j : Nat} {s : Slot} (ej : sl[j]? = some s) (bj : isBox s = true) : Rl K F (fun b => O b ∧ b ≠ A j) A (frz1 j sl) p σ H := by
  have hj : j < sl.length := (List.getElem?_eq_some_iff.mp ej).1
  unfold Pu.frz1
  rw [ej]
  refine ⟨fun b h => R.dom b h.1, fun b h => ⟨R.cur b h, fun z => ?_⟩, R.cd, R.apO, R.ext, R.pot, fun i t e => ?_, fun i k u t e b e2 b2 => ?_, by rw [List.length_set]; exact R.len⟩
  · have q := (R.box ej bj).2.1
    rw [← z] at q
    exact R.cd b h q
  · by_cases hij : i = j
    · subst hij
      rw [List.getElem?_set_self hj] at e
      cases e
      have q := R.slot i s ej
      cases s with
      | own c =>
        obtain ⟨e1, r, o, z⟩ := q
        exact ⟨_, e1, RC.rd (r.map (fun b x n e => ⟨fun h => n h.1, e⟩) fun _ h => h) fun h => h.2 rfl⟩
      | iso c =>
        obtain ⟨e1, r, o, z, t⟩ := q
        exact ⟨_, e1, r⟩
      | _ => cases bj
    · rw [List.getElem?_set_ne (Ne.symm hij)] at e
      have q := R.slot i t e
      cases t with
      | un => exact True.intro
      | sh d => obtain ⟨v, e1, r⟩ := q; exact ⟨v, e1, r.map fun b x n e => ⟨fun h => n h.1, e⟩⟩
      | own c =>
        obtain ⟨e1, r, o, z⟩ := q
        exact ⟨e1, r.map (fun b x n e => ⟨fun h => n h.1, e⟩) (fun _ h => h), ⟨o, fun h => hij (R.inj i j _ _ e rfl ej bj h)⟩, z⟩
      | iso c =>
        obtain ⟨e1, r, o, z, t⟩ := q
        exact ⟨e1, r.map fun b x n e => ⟨fun h => n ⟨h.1.1, h.2⟩, e⟩, ⟨o, fun h => hij (R.inj i j _ _ e rfl ej bj h)⟩, z, t⟩
      | pot => exact q
  · have ne : ∀ {i : Nat} {u : Slot}, (sl.set j (frzS s))[i]? = some u → isBox u = true → sl[i]? = some u := fun {i u} e b => by
      by_cases hij : i = j
      · subst hij
        rw [List.getElem?_set_self hj] at e
        cases e
        rw [frzS_box] at b; cases b
      · rw [List.getElem?_set_ne (Ne.symm hij)] at e
        exact e
    exact R.inj i k u t (ne e b) b (ne e2 b2) b2
/-- a slot's new content that is no container -/
theorem Rl.setN (R : Rl K F O A sl p σ H) {i : Nat} {s : Slot} {v : V} (hi : i < sl.length) (nb : isBox s = false) (hs : ∀ σ : L2.St, σ[i]? = some (some v) → SlotR K F O A σ H i s) : Rl K F O A (sl.set i s) p (σ.set i (some v)) H := by
  have hσ : i < σ.length := by rw [← R.len]; exact hi
  refine ⟨R.dom, R.cur, R.cd, R.apO, R.ext, R.pot, fun j t e => ?_, fun j k u t e b e2 b2 => ?_, by rw [List.length_set, List.length_set]; exact R.len⟩
  · by_cases hij : j = i
    · subst hij
      rw [List.getElem?_set_self hi] at e
      cases e
      exact hs _ (List.getElem?_set_self hσ)
    · rw [List.getElem?_set_ne (Ne.symm hij)] at e
      have q := R.slot j t e
      have es : (σ.set i (some v))[j]? = σ[j]? := List.getElem?_set_ne (Ne.symm hij)
      cases t with
      | un => exact True.intro
      | sh d => obtain ⟨v', e1, r⟩ := q; exact ⟨v', by rw [es]; exact e1, r⟩
      | own c => obtain ⟨e1, r⟩ := q; exact ⟨by rw [es]; exact e1, r⟩
      | iso c => obtain ⟨e1, r⟩ := q; exact ⟨by rw [es]; exact e1, r⟩
      | pot => exact (by rw [es]; exact q : (σ.set i (some v))[j]? = some (some (.ref F.ap)))
  · have ne : ∀ {j : Nat} {u : Slot}, (sl.set i s)[j]? = some u → isBox u = true → sl[j]? = some u := fun {j u} e b => by
      by_cases hij : j = i
      · subst hij
        rw [List.getElem?_set_self hi] at e
        cases e
        rw [nb] at b; cases b
      · rw [List.getElem?_set_ne (Ne.symm hij)] at e
        exact e
    exact R.inj j k u t (ne e b) b (ne e2 b2) b2
theorem Rl.setSh (R : Rl K F O A sl p σ H) {i : Nat} {d : PyData} {v : V} (hi : i < sl.length) (r : RD K O H d v) : Rl K F O A (sl.set i (.sh d)) p (σ.set i (some v)) H :=
  R.setN hi rfl fun _ e => ⟨v, e, r⟩
def updA (A : Nat → Addr) (i : Nat) (q : Addr) : Nat → Addr := fun j => if j = i then q else A j
theorem updA_eq {A : Nat → Addr} {i : Nat} {q : Addr} : updA A i q i = q := if_pos rfl
theorem updA_ne {A : Nat → Addr} {i j : Nat} {q : Addr} (h : j ≠ i) : updA A i q j = A j := if_neg h
/-- .. that is one: at q, of which the slots know nothing -/
theorem Rl.setB (R : Rl K F O A sl p σ H) {i : Nat} {s : Slot} {q : Addr} (hi : i < sl.length) (nb : ∀ j t, sl[j]? = some t → isBox t = true → A j ≠ q)
    (hs : ∀ (A' : Nat → Addr) (σ : L2.St), A' i = q → σ[i]? = some (some (.ref q)) → SlotR K F O A' σ H i s) : ∃ A', Rl K F O A' (sl.set i s) p (σ.set i (some (.ref q))) H := by
  have hσ : i < σ.length := by rw [← R.len]; exact hi
  refine ⟨updA A i q, R.dom, R.cur, R.cd, R.apO, R.ext, R.pot, fun j t e => ?_, fun j k u t e b e2 b2 h => ?_, by rw [List.length_set, List.length_set]; exact R.len⟩
  · by_cases hij : j = i
    · subst hij
      rw [List.getElem?_set_self hi] at e
      cases e
      exact hs _ _ updA_eq (List.getElem?_set_self hσ)
    · rw [List.getElem?_set_ne (Ne.symm hij)] at e
      have q0 := R.slot j t e
      have es : (σ.set i (some (V.ref q)))[j]? = σ[j]? := List.getElem?_set_ne (Ne.symm hij)
      have ea : updA A i q j = A j := updA_ne hij
      cases t with
      | un => exact True.intro
      | sh d => obtain ⟨v', e1, r⟩ := q0; exact ⟨v', by rw [es]; exact e1, r⟩
      | own c =>
        obtain ⟨e1, r, o, z⟩ := q0
        exact ⟨by rw [es, ea]; exact e1, by rw [ea]; exact r, by rw [ea]; exact o, by rw [ea]; exact z⟩
      | iso c =>
        obtain ⟨e1, r, o, z, t⟩ := q0
        exact ⟨by rw [es, ea]; exact e1, by rw [ea]; exact r, by rw [ea]; exact o, by rw [ea]; exact z, by rw [ea]; exact t⟩
      | pot => exact (by rw [es]; exact q0 : (σ.set i (some (V.ref q)))[j]? = some (some (.ref F.ap)))
  · have old : ∀ {j : Nat} {u : Slot}, j ≠ i → (sl.set i s)[j]? = some u → sl[j]? = some u := fun {j u} n e => by
      rw [List.getElem?_set_ne (Ne.symm n)] at e
      exact e
    by_cases hj : j = i
    · by_cases hk : k = i
      · rw [hj, hk]
      · rw [hj, updA_eq, updA_ne hk] at h
        exact absurd h.symm (nb k t (old hk e2) b2)
    · by_cases hk : k = i
      · rw [hk, updA_eq, updA_ne hj] at h
        exact absurd h (nb j u (old hj e) b)
      · rw [updA_ne hj, updA_ne hk] at h
        exact R.inj j k u t (old hj e) b (old hk e2) b2 h
theorem Rl.h0 (R : Rl K F O A sl p σ H) {q : Addr} (n : H q = none) : F.H0 q = none := by
  cases z : F.H0 q with
  | none => rfl
  | some u =>
    by_cases w : q = F.ap
    · rw [w] at n; exact absurd n R.potNe
    · rw [R.ext q u w z] at n; cases n
/-- what statements may change: what O holds, and what is new -/
structure Tr (O : Pred) (H : Hp) (O' : Pred) (H' : Hp) : Prop where
  fr : ∀ b x, ¬ O b → H b = some x → H' b = some x
  nw : ∀ b, O' b → O b ∨ H b = none
theorem Tr.refl (O : Pred) (H : Hp) : Tr O H O H := ⟨fun _ _ _ e => e, fun _ h => .inl h⟩
theorem Tr.trans {O1 O2 : Pred} {H1 H2 : Hp} (a : Tr O H O1 H1) (b : Tr O1 H1 O2 H2) : Tr O H O2 H2 := by
  have n1 : ∀ c x, ¬ O c → H c = some x → ¬ O1 c := fun c x n e z => (a.nw c z).elim n fun w => by rw [w] at e; cases e
  refine ⟨fun c x n e => b.fr c x (n1 c x n e) (a.fr c x n e), fun c h => ?_⟩
  rcases b.nw c h with z | z
  · exact a.nw c z
  · by_cases w : O c
    · exact .inl w
    · cases q : H c with
      | none => exact .inr rfl
      | some x => rw [a.fr c x w q] at z; cases z
theorem Tr.map {O1 : Pred} {H1 : Hp} (a : Tr O H O1 H1) : ∀ b x, ¬ O b → H b = some x → ¬ O1 b ∧ H1 b = some x := fun b x n e =>
  ⟨fun z => (a.nw b z).elim n fun w => (by rw [w] at e; cases e), a.fr b x n e⟩
theorem Rl.tr (R : Rl K F O A sl p σ H) (x : Ex F H H' p') : Tr O H O H' := ⟨fun b y n e => x.keep b y (fun z => n (by rw [z]; exact R.ap)) e, fun _ h => .inl h⟩
theorem asg_ok {i : Nat} {val : Val} {v : V} (R : Rl K F O A sl p σ H) (x : Ex F H H' p') (r : VR K F O A sl H H' v val) (e : asg i val sl = some sl') : ∃ O' A', Rl K F O' A' sl' p' (σ.set i (some v)) H' ∧ Tr O H O' H' := by
  have T := R.tr x
  unfold asg at e
  split at e
  · rename_i hi
    have R' := R.exp x
    cases val with
    | sh d => cases e; exact ⟨O, A, R'.setSh hi r, T⟩
    | pot => cases e; exact ⟨O, A, R'.setN hi rfl fun σ es => by rw [show v = .ref F.ap from r] at es; exact es, T⟩
    | fr c =>
      cases e
      obtain ⟨q, rfl, n, rc⟩ := r
      obtain ⟨o, ho⟩ := rc.there
      have R2 := R.add n x (by rw [ho]; exact fun z => nomatch z)
      obtain ⟨A', R3⟩ := R2.setB (s := .own c) (q := q) hi (fun j t ej bj z => by
        obtain ⟨_, _, y, hy⟩ := R.box ej bj
        rw [z, n] at hy; cases hy) fun A1 σ1 ea es => ⟨by rw [ea]; exact es, by rw [ea]; exact rc, by rw [ea]; exact .inr rfl, by rw [ea]; exact R.h0 n⟩
      exact ⟨_, A', R3, T.fr, fun b h => h.elim .inl fun z => .inr (by rw [z]; exact n)⟩
    | is c =>
      cases e
      obtain ⟨q, rfl, n, t, rd⟩ := r
      have R2 := R.add n x t
      obtain ⟨A', R3⟩ := R2.setB (s := .iso c) (q := q) hi (fun j t ej bj z => by
        obtain ⟨_, _, y, hy⟩ := R.box ej bj
        rw [z, n] at hy; cases hy) fun A1 σ1 ea es => ⟨by rw [ea]; exact es, by
          rw [ea]
          exact rd.map fun b y nb e => ⟨fun h => h.1.elim nb h.2, e⟩, by rw [ea]; exact .inr rfl, by rw [ea]; exact R.h0 n, by rw [ea]; exact t⟩
      exact ⟨_, A', R3, T.fr, fun b h => h.elim .inl fun z => .inr (by rw [z]; exact n)⟩
    | ow j c =>
      cases e
      obtain ⟨rfl, ej⟩ := r
      have q := R'.slot j _ ej
      have R2 := R'.frz1 ej rfl
      have hl : (frz1 j sl).length = sl.length := by unfold frz1; rw [ej]; simp
      exact ⟨_, A, R2.setSh (by rw [hl]; exact hi) (RC.rd (q.2.1.map (fun b x n e => ⟨fun h => n h.1, e⟩) fun _ h => h) fun h => h.2 rfl), T.fr, fun b h => .inl h.1⟩
    | bo d =>
      cases e
      exact ⟨_, A, R'.frzAll.setSh (by rw [List.length_map]; exact hi) r, T.fr, fun b h => .inl h.1⟩
  · cases e
end

/-! ### statements -/
/-- a def's answer v at H', from the entry -/
def RetR (K : Fg) (F : Fc) (val : Val) (v : V) (H' : Hp) (p' : Pot) : Prop :=
  (∀ b x, b ≠ F.ap → F.H0 b = some x → H' b = some x) ∧ H' F.ap = some (.lst [.int p'.1, .int p'.2]) ∧ match val with
    | .sh d => RD K F.Oc H' d v
    | .fr c => ∃ q, v = .ref q ∧ F.H0 q = none ∧ RC K (Oa F.Oc q) H' c q
    | .pot => v = .ref F.ap
    | _ => False
def OutK (K : Fg) (F : Fc) (O : Pred) (H : Hp) (D : Ends) : Out → Prop
  | .nx sl' p' => ∀ O' A' σ' H', Rl K F O' A' sl' p' σ' H' → Tr O H O' H' → D.nx σ' H'
  | .bk sl' p' => ∀ O' A' σ' H', Rl K F O' A' sl' p' σ' H' → Tr O H O' H' → D.bk σ' H'
  | .ct sl' p' => ∀ O' A' σ' H', Rl K F O' A' sl' p' σ' H' → Tr O H O' H' → D.ct σ' H'
  | .rt val p' => ∀ v H', RetR K F val v H' p' → D.rt v H'
theorem OutK.tr {K : Fg} {F : Fc} {O O1 : Pred} {H H1 : Hp} {D : Ends} {out : Out} (q : OutK K F O H D out) (T : Tr O H O1 H1) : OutK K F O1 H1 D out := by
  cases out with
  | nx sl' p' => exact fun O' A' σ' H' R T' => q O' A' σ' H' R (T.trans T')
  | bk sl' p' => exact fun O' A' σ' H' R T' => q O' A' σ' H' R (T.trans T')
  | ct sl' p' => exact fun O' A' σ' H' R T' => q O' A' σ' H' R (T.trans T')
  | rt val p' => exact q
def tS (K : Fg) (s : Sm) : TS := fun D σ H => ∃ F O A sl p out, Rl K F O A sl p σ H ∧ s sl p = some out ∧ OutK K F O H D out
abbrev CS (X : Cx) (st : Stmt) (s : Sm) : Prop := PS X st (tS X.K s)
abbrev CB (X : Cx) (st : List Stmt) (s : Sm) : Prop := PSs X st (tS X.K s)

section
variable {X : Cx} {a b c e : Expr} {fa fb fc f : Ev} {pos p2 : Pos} {x : Str} {pn : Pos} {st : Stmt} {rest bd el : List Stmt} {s t : Sm}
def seqS (s t : Sm) (sl : Sl) (p : Pot) : Option Out := match s sl p with
  | some (.nx sl1 p1) => t sl1 p1
  | o => o
def nxS (sl : Sl) (p : Pot) : Option Out := some (.nx sl p)
def bkS (sl : Sl) (p : Pot) : Option Out := some (.bk sl p)
def ctS (sl : Sl) (p : Pot) : Option Out := some (.ct sl p)
theorem cb_nil : CB X [] nxS := PSsimp pss_nil fun D σ H h => by
  obtain ⟨F, O, A, sl, p, out, R, hf, q⟩ := h
  cases hf
  exact q O A σ H R (Tr.refl O H)
theorem cb_one (h : CS X st s) : CB X [st] s := pss_one h
theorem cb_cons (h : CS X st s) (h2 : CB X rest t) : CB X (st :: rest) (seqS s t) := PSsimp (pss_cons h h2) fun D σ H h => by
  obtain ⟨F, O, A, sl, p, out, R, hf, q⟩ := h
  unfold seqS at hf
  split at hf
  · rename_i sl1 p1 e1
    exact ⟨F, O, A, sl, p, _, R, e1, fun O' A' σ' H' R' T => ⟨F, O', A', sl1, p1, out, R', hf, q.tr T⟩⟩
  · rename_i o ne
    refine ⟨F, O, A, sl, p, out, R, hf, ?_⟩
    cases out with
    | nx sl1 p1 => exact absurd hf (ne sl1 p1)
    | bk _ _ => exact q
    | ct _ _ => exact q
    | rt _ _ => exact q
theorem cs_pass : CS X (.Pass pos) nxS := PSimp ps_pass fun D σ H h => by
  obtain ⟨F, O, A, sl, p, out, R, hf, q⟩ := h
  cases hf
  exact q O A σ H R (Tr.refl O H)
theorem cs_break : CS X (.Break pos) bkS := PSimp ps_break fun D σ H h => by
  obtain ⟨F, O, A, sl, p, out, R, hf, q⟩ := h
  cases hf
  exact q O A σ H R (Tr.refl O H)
theorem cs_continue : CS X (.Continue pos) ctS := PSimp ps_continue fun D σ H h => by
  obtain ⟨F, O, A, sl, p, out, R, hf, q⟩ := h
  cases hf
  exact q O A σ H R (Tr.refl O H)
/-- code that is never come to -/
def noS (_ : Sl) (_ : Pot) : Option Out := none
theorem cs_never : CS X st noS := PSimp ps_never fun D σ H h => by
  obtain ⟨F, O, A, sl, p, out, R, hf, q⟩ := h
  cases hf
/-- x = e -/
def setS (i : Nat) (f : Ev) (sl : Sl) (p : Pot) : Option Out := match f sl p with
  | some (val, p1) => (asg i val sl).map fun sl' => .nx sl' p1
  | none => none
theorem cs_set (i : Nat) {pos' : Pos} (hN : X.N.Nodup) (he : CE X e f) (hi : X.N[i]? = some x := by rfl) (hx : Loc X.env.scope x := by first | exact Or.inl rfl | exact Or.inr rfl) (hs : swapsWith e (some (.Name x pos')) pos.line X.env = pure false := by rfl)
    (hf : X.fn x = true ∨ X.env.scope.names.lookup x = some .local := by first | exact .inl rfl | exact .inr rfl) : CS X (.Assign [.Name x pos'] e pos) (setS i f) := PSimp (ps_set hN hi hx he hs hf) fun D σ H h => by
  obtain ⟨F, O, A, sl, p, out, R, hf, q⟩ := h
  unfold setS at hf
  split at hf
  · rename_i val p1 e1
    obtain ⟨sl', e2, rfl⟩ := Option.map_eq_some_iff.mp hf
    refine tE.get R e1 fun v H1 x1 r1 => ?_
    obtain ⟨O', A', R', T⟩ := asg_ok R x1 r1 e2
    exact q O' A' _ H1 R' T
  · cases hf
/-- e; -/
def dropS (f : Ev) (sl : Sl) (p : Pot) : Option Out := match f sl p with
  | some (_, p1) => some (.nx sl p1)
  | none => none
theorem cs_expr (he : CE X e f) (hs : swapsWith e none pos.line X.env = pure false := by rfl) : CS X (.Expr e pos) (dropS f) := PSimp (ps_expr he hs) fun D σ H h => by
  obtain ⟨F, O, A, sl, p, out, R, hf, q⟩ := h
  unfold dropS at hf
  split at hf
  · rename_i val p1 e1
    cases hf
    exact tE.get R e1 fun v H1 x1 r1 => q O A σ H1 (R.exp x1) (R.tr x1)
  · cases hf
/-- return e -/
def retV : Val → Val
  | .sh d => .sh d
  | .bo d => .sh d
  | .fr c => .fr c
  | .ow _ c => .fr c
  | .is c => .sh c
  | .pot => .pot
def retS (f : Ev) (sl : Sl) (p : Pot) : Option Out := match f sl p with
  | some (val, p1) => some (.rt (retV val) p1)
  | none => none
theorem ret_ok {K : Fg} {F : Fc} {O : Pred} {A : Nat → Addr} {sl : Sl} {p p' : Pot} {σ : L2.St} {H H' : Hp} {v : V} {val : Val} (R : Rl K F O A sl p σ H) (x : Ex F H H' p') (r : VR K F O A sl H H' v val) : RetR K F (retV val) v H' p' := by
  have R' := R.exp x
  refine ⟨R'.ext, x.pot, ?_⟩
  have cm : ∀ b y, ¬ O b → H' b = some y → ¬ F.Oc b ∧ H' b = some y := fun b y n e => ⟨fun h => n (R.cur b h), e⟩
  have bm : ∀ b y, ¬ Ob O A sl b → H' b = some y → ¬ F.Oc b ∧ H' b = some y := fun b y n e => ⟨fun h => n (R.boOc b h), e⟩
  cases val with
  | sh d => exact RD.map cm r
  | bo d => exact RD.map bm r
  | fr c =>
    obtain ⟨q, e, n, rc⟩ := r
    exact ⟨q, e, R.h0 n, rc.map (fun b y nb e => ⟨fun h => nb (h.elim (fun z => .inl (R.cur b z)) .inr), e⟩) fun _ h => h⟩
  | ow i c =>
    obtain ⟨e, ei⟩ := r
    obtain ⟨_, rc, o, z⟩ := R'.slot i _ ei
    exact ⟨_, e, z, rc.map (fun b y nb e => ⟨fun h => nb (h.elim (R.cur b) fun w => by rw [w]; exact o), e⟩) fun _ h => h⟩
  | is c =>
    obtain ⟨q, e, n, t, rd⟩ := r
    exact RD.map cm rd
  | pot => exact r
theorem cs_ret (he : CE X e f) : CS X (.Return (some e) pos) (retS f) := PSimp (ps_ret he) fun D σ H h => by
  obtain ⟨F, O, A, sl, p, out, R, hf, q⟩ := h
  unfold retS at hf
  split at hf
  · rename_i val p1 e1
    cases hf
    exact tE.get R e1 fun v H1 x1 r1 => q v H1 (ret_ok R x1 r1)
  · cases hf
/-- if -/
def iteS (fc : Ev) (s t : Sm) (sl : Sl) (p : Pot) : Option Out := match fc sl p with
  | some (.sh (.bool true), p1) => s sl p1
  | some (.sh (.bool false), p1) => t sl p1
  | _ => none
theorem cs_if (hc : CT X c fc) (ha : CB X bd s) (hb : CB X el t) : CS X (.If c bd el pos) (iteS fc s t) := PSimp (ps_if hc ha hb) fun D σ H h => by
  obtain ⟨F, O, A, sl, p, out, R, hf, q⟩ := h
  unfold iteS at hf
  split at hf
  · rename_i p1 e1
    exact ⟨F, O, A, sl, p, true, p1, R, e1, fun H1 x1 => iteT ⟨F, O, A, sl, p1, out, R.exp x1, hf, q.tr (R.tr x1)⟩⟩
  · rename_i p1 e1
    exact ⟨F, O, A, sl, p, false, p1, R, e1, fun H1 x1 => iteF ⟨F, O, A, sl, p1, out, R.exp x1, hf, q.tr (R.tr x1)⟩⟩
  · cases hf
end
end Pu
namespace Pu
open PySem PySem.Spec PyProof.Rows L2

/-! ### while -/
def whileN (c : Ev) (s : Sm) : Nat → Sm
  | 0, _, _ => none
  | n + 1, sl, p => match c sl p with
    | some (.sh (.bool true), p1) => (match s sl p1 with
      | some (.nx sl2 p2) => whileN c s n sl2 p2
      | some (.ct sl2 p2) => whileN c s n sl2 p2
      | some (.bk sl2 p2) => some (.nx sl2 p2)
      | some (.rt v p2) => some (.rt v p2)
      | none => none)
    | some (.sh (.bool false), p1) => some (.nx sl p1)
    | _ => none
theorem whileN_succ {c : Ev} {s : Sm} : ∀ {n : Nat} {sl : Sl} {p : Pot} {o : Out}, whileN c s n sl p = some o → whileN c s (n + 1) sl p = some o
  | 0, _, _, _, h => by cases h
  | n + 1, sl, p, o, h => by
    unfold whileN at h ⊢
    split at h
    · rename_i p1 e1
      split at h
      · rename_i sl2 p2 e2
        exact whileN_succ h
      · rename_i sl2 p2 e2
        exact whileN_succ h
      · exact h
      · exact h
      · cases h
    · exact h
    · cases h
theorem whileN_le {c : Ev} {s : Sm} {n m : Nat} {sl : Sl} {p : Pot} {o : Out} (h : n ≤ m) (e : whileN c s n sl p = some o) : whileN c s m sl p = some o := by
  induction h with
  | refl => exact e
  | step _ ih => exact whileN_succ ih
open Classical in
noncomputable def whileS (c : Ev) (s : Sm) (sl : Sl) (p : Pot) : Option Out := match whileN c s 1099511627776 sl p with
  | some o => some o
  | none => if h : ∃ n, (whileN c s n sl p).isSome = true then whileN c s (choose h) sl p else none
theorem whileS_of {c : Ev} {s : Sm} {n : Nat} {sl : Sl} {p : Pot} {o : Out} (e : whileN c s n sl p = some o) : whileS c s sl p = some o := by
  have uniq : ∀ {m : Nat} {o' : Out}, whileN c s m sl p = some o' → o' = o := fun {m o'} e' => by
    have a := whileN_le (Nat.le_max_left n m) e
    have b := whileN_le (Nat.le_max_right n m) e'
    rw [a] at b
    exact (Option.some.inj b).symm
  unfold whileS
  split
  · rename_i o' e'
    rw [uniq e']
  · have h : ∃ n, (whileN c s n sl p).isSome = true := ⟨n, by rw [e]; rfl⟩
    rw [dif_pos h]
    obtain ⟨o', e'⟩ := Option.isSome_iff_exists.mp (Classical.choose_spec h)
    rw [e', uniq e']
theorem whileS_get {c : Ev} {s : Sm} {sl : Sl} {p : Pot} {o : Out} (e : whileS c s sl p = some o) : ∃ n, whileN c s n sl p = some o := by
  unfold whileS at e
  split at e
  · rename_i o' e'
    cases e
    exact ⟨_, e'⟩
  · split at e
    · exact ⟨_, e⟩
    · cases e
/-- one turn of a while -/
theorem whileS_eq (c : Ev) (s : Sm) (sl : Sl) (p : Pot) : whileS c s sl p = (match c sl p with
    | some (.sh (.bool true), p1) => (match s sl p1 with
      | some (.nx sl2 p2) => whileS c s sl2 p2
      | some (.ct sl2 p2) => whileS c s sl2 p2
      | some (.bk sl2 p2) => some (.nx sl2 p2)
      | some (.rt v p2) => some (.rt v p2)
      | none => none)
    | some (.sh (.bool false), p1) => some (.nx sl p1)
    | _ => none) := by
  cases hL : whileS c s sl p with
  | some o =>
    obtain ⟨n, e⟩ := whileS_get hL
    cases n with
    | zero => cases e
    | succ n =>
      unfold whileN at e
      split at e
      · rename_i p1 e1
        split at e
        · rename_i sl2 p2 e2
          exact (whileS_of e).symm
        · rename_i sl2 p2 e2
          exact (whileS_of e).symm
        · rename_i sl2 p2 e2; exact e.symm
        · rename_i v p2 e2; exact e.symm
        · cases e
      · exact e.symm
      · cases e
  | none =>
    have no : ∀ n o, whileN c s n sl p ≠ some o := fun n o e => by rw [whileS_of e] at hL; cases hL
    split
    · rename_i p1 e1
      split
      · rename_i sl2 p2 e2
        cases hr : whileS c s sl2 p2 with
        | none => rfl
        | some o =>
          obtain ⟨n, e⟩ := whileS_get hr
          exact absurd (by unfold whileN; simp only [e1, e2]; exact e) (no (n + 1) o)
      · rename_i sl2 p2 e2
        cases hr : whileS c s sl2 p2 with
        | none => rfl
        | some o =>
          obtain ⟨n, e⟩ := whileS_get hr
          exact absurd (by unfold whileN; simp only [e1, e2]; exact e) (no (n + 1) o)
      · rename_i sl2 p2 e2
        exact absurd (by unfold whileN; simp only [e1, e2]) (no 1 (.nx sl2 p2))
      · rename_i v p2 e2
        exact absurd (by unfold whileN; simp only [e1, e2]) (no 1 (.rt v p2))
      · rfl
    · rename_i p1 e1
      exact absurd (by unfold whileN; simp only [e1]) (no 1 (.nx sl p1))
    · rfl
section
variable {X : Cx} {c e : Expr} {fc f : Ev} {pos : Pos} {bd : List Stmt} {s : Sm}
theorem cs_while (hp : PassesOwn (model X.prog X.w) X.A X.env X.xe) (hc : CT X c fc) (hb : CB X bd s) : CS X (.While c bd [] pos) (whileS fc s) := PSimp (ps_while hp hc hb) fun D σ H h => by
  obtain ⟨F, O, A, sl, p, out, R, hf, q⟩ := h
  obtain ⟨n, e⟩ := whileS_get hf
  refine ⟨fun m σ' H' => ∃ O' A' sl' p', Rl X.K F O' A' sl' p' σ' H' ∧ Tr O H O' H' ∧ whileN fc s m sl' p' = some out, ⟨n, O, A, sl, p, R, Tr.refl O H, e⟩, ?_⟩
  rintro m σ1 H1 ⟨O1, A1, sl1, p1, R1, T1, e1⟩
  cases m with
  | zero => cases e1
  | succ m =>
    unfold whileN at e1
    split at e1
    · rename_i p2 ec
      refine ⟨F, O1, A1, sl1, p1, true, p2, R1, ec, fun H2 x2 => iteT ?_⟩
      have T2 := T1.trans (R1.tr x2)
      refine ⟨fun σ' H' => ∃ O' A' sl' p', Rl X.K F O' A' sl' p' σ' H' ∧ Tr O H O' H' ∧ whileN fc s m sl' p' = some out, fun σ' H' hN => ⟨m, Nat.lt_succ_self m, hN⟩, ?_⟩
      split at e1
      · rename_i sl2 p3 es
        exact ⟨F, O1, A1, sl1, p2, _, R1.exp x2, es, fun O' A' σ' H' R' T' => ⟨O', A', sl2, p3, R', T2.trans T', e1⟩⟩
      · rename_i sl2 p3 es
        exact ⟨F, O1, A1, sl1, p2, _, R1.exp x2, es, fun O' A' σ' H' R' T' => ⟨O', A', sl2, p3, R', T2.trans T', e1⟩⟩
      · rename_i sl2 p3 es
        cases e1
        exact ⟨F, O1, A1, sl1, p2, _, R1.exp x2, es, fun O' A' σ' H' R' T' => q O' A' σ' H' R' (T2.trans T')⟩
      · rename_i v p3 es
        cases e1
        exact ⟨F, O1, A1, sl1, p2, _, R1.exp x2, es, q⟩
      · cases e1
    · rename_i p2 ec
      cases e1
      exact ⟨F, O1, A1, sl1, p1, false, p2, R1, ec, fun H2 x2 => iteF (q O1 A1 σ1 H2 (R1.exp x2) (T1.trans (R1.tr x2)))⟩
    · cases e1
end

/-! ### targets -/
inductive Tg where
  | nm (i : Nat) | tp (ts : List Tg)
mutual
def asgD : Tg → PyData → Sl → Option Sl
  | .nm i, d, sl => if i < sl.length then some (sl.set i (.sh d)) else none
  | .tp ts, .tuple ds, sl => asgDs ts ds sl
  | .tp _, _, _ => none
def asgDs : List Tg → List PyData → Sl → Option Sl
  | [], [], sl => some sl
  | t :: ts, d :: ds, sl => (match asgD t d sl with
    | some sl1 => asgDs ts ds sl1
    | none => none)
  | _, _, _ => none
end
mutual
/-- the slots that a target names -/
def Tg.ix : Tg → List Nat
  | .nm i => [i]
  | .tp ts => ixs ts
def ixs : List Tg → List Nat
  | [] => []
  | t :: ts => Tg.ix t ++ ixs ts
end
/-- alike but for these slots -/
def Ag (is : List Nat) (σ σ' : L2.St) : Prop := σ'.length = σ.length ∧ ∀ i, i ∉ is → σ'[i]? = σ[i]?
theorem Ag.trans {is js : List Nat} {σ σ1 σ2 : L2.St} (a : Ag is σ σ1) (b : Ag js σ1 σ2) : Ag (is ++ js) σ σ2 := ⟨b.1.trans a.1, fun i h => by
  rw [List.mem_append, not_or] at h
  exact (b.2 i h.2).trans (a.2 i h.1)⟩
def tG (K : Fg) (t : Tg) : TG := fun v σ H Q => ∃ F O A sl p d sl', Rl K F O A sl p σ H ∧ RD K O H d v ∧ asgD t d sl = some sl' ∧ ∀ σ', Rl K F O A sl' p σ' H → Ag t.ix σ σ' → Q σ' H
def tGs (K : Fg) (ts : List Tg) : TGs := fun vs σ H Q => ∃ F O A sl p ds sl', Rl K F O A sl p σ H ∧ RDs K O H ds vs ∧ asgDs ts ds sl = some sl' ∧ ∀ σ', Rl K F O A sl' p σ' H → Ag (ixs ts) σ σ' → Q σ' H
abbrev CG (X : Cx) (e : Expr) (t : Tg) : Prop := PG X e (tG X.K t)
abbrev CGs (X : Cx) (es : List Expr) (ts : List Tg) : Prop := PGs X es (tGs X.K ts)
theorem PGimp {X : Cx} {e : Expr} {t t' : TG} (h : PG X e t) (i : ∀ v σ H Q, t' v σ H Q → t v σ H Q) : PG X e t' := ⟨fun pins s σ H v u Q I r w => h.run pins s σ H v u Q I r (i v σ H Q w)⟩
theorem PGsimp {X : Cx} {e : List Expr} {t t' : TGs} (h : PGs X e t) (i : ∀ v σ H Q, t' v σ H Q → t v σ H Q) : PGs X e t' := ⟨fun pins s σ H v u Q I r w => h.run pins s σ H v u Q I r (i v σ H Q w)⟩
section
variable {X : Cx} {pos : Pos} {x : Str} {e : Expr} {es : List Expr} {t : Tg} {ts : List Tg}
theorem cg_nm (i : Nat) (hN : X.N.Nodup) (hi : X.N[i]? = some x := by rfl) (hx : Loc X.env.scope x := by first | exact Or.inl rfl | exact Or.inr rfl) (hf : X.fn x = true ∨ X.env.scope.names.lookup x = some .local := by first | exact .inl rfl | exact .inr rfl) : CG X (.Name x pos) (.nm i) :=
  PGimp (pg_name hN hi hx hf) fun v σ H Q h => by
    obtain ⟨F, O, A, sl, p, d, sl', R, r, hf, q⟩ := h
    simp only [asgD] at hf
    split at hf
    · rename_i hl
      cases hf
      exact q _ (R.setSh hl r) ⟨by simp, fun j hj => List.getElem?_set_ne fun z => hj (by simp [Tg.ix, z])⟩
    · cases hf
theorem cgs_nil : CGs X [] [] := PGsimp pgs_nil fun v σ H Q h => by
  obtain ⟨F, O, A, sl, p, ds, sl', R, r, hf, q⟩ := h
  cases ds with
  | nil =>
    simp only [asgDs] at hf
    cases hf
    exact ⟨RDs.nil_iff.mp r, q σ R ⟨rfl, fun _ _ => rfl⟩⟩
  | cons d ds => simp only [asgDs] at hf; cases hf
theorem cgs_cons (h : CG X e t) (h2 : CGs X es ts) (hs : (assignEach (e :: es) X.env).map (·.2) = assign e X.env :: (assignEach es X.env).map (·.2) := by rfl) : CGs X (e :: es) (t :: ts) := PGsimp (pgs_cons h h2 hs) fun v σ H Q h => by
  obtain ⟨F, O, A, sl, p, ds, sl', R, r, hf, q⟩ := h
  cases ds with
  | nil => simp only [asgDs] at hf; cases hf
  | cons d ds =>
    simp only [asgDs] at hf
    split at hf
    · rename_i sl1 e1
      simp only [RDs] at r
      obtain ⟨u, us, rfl, r1, r2⟩ := r
      exact ⟨u, us, rfl, F, O, A, sl, p, d, sl1, R, r1, e1, fun σ1 R1 g1 => ⟨F, O, A, sl1, p, ds, sl', R1, r2, hf, fun σ2 R2 g2 => q σ2 R2 (by simp only [ixs]; exact g1.trans g2)⟩⟩
    · cases hf
theorem asgDs_len : ∀ {ts : List Tg} {ds : List PyData} {sl sl' : Sl}, asgDs ts ds sl = some sl' → ds.length = ts.length
  | [], [], _, _, _ => rfl
  | t :: ts, d :: ds, _, _, h => by
    simp only [asgDs] at h
    split at h
    · simp [asgDs_len h]
    · cases h
  | [], _ :: _, _, _, h => by simp only [asgDs] at h; cases h
  | _ :: _, [], _, _, h => by simp only [asgDs] at h; cases h
theorem cg_tp {k : Nat} (hc : X.calm = true) (h : CGs X es ts) (hl : (assignEach es X.env).length = ts.length := by rfl) (hst : (assignEach es X.env).findIdx? (·.1) = none := by rfl) : CG X (.Tuple es k pos) (.tp ts) :=
  PGimp (pg_tup hc h hl hst) fun v σ H Q h => by
    obtain ⟨F, O, A, sl, p, d, sl', R, r, hf, q⟩ := h
    cases d with
    | tuple ds =>
      simp only [asgD] at hf
      simp only [RD] at r
      obtain ⟨a, vs, rfl, ha, rs⟩ := r
      exact ⟨a, vs, rfl, ha.elim (fun z => SqT.of z.2) .inr, by rw [rs.length, asgDs_len hf], F, O, A, sl, p, ds, sl', R, rs, hf, fun σ2 R2 g2 => q σ2 R2 (by simp only [Tg.ix]; exact g2)⟩
    | _ => simp only [asgD] at hf; cases hf
end

/-! ### what is walked -/
/-- J yields the data ds, wherever P holds -/
structure Goes (K : Fg) (P : Pred → Hp → Prop) (J : It) (ds : List PyData) : Prop where
  go : ∀ i O H, P O H → i < ds.length → J.go i H
  yld : ∀ i O H x H', P O H → i < ds.length → J.yld i H x H' → ∃ d, ds[i]? = some d ∧ (∀ b y, H b = some y → H' b = some y) ∧ RD K O H' d x
  stop : ∀ i O H, P O H → ds.length ≤ i → J.stop i H
/-- .. behind (O, H), by statements -/
def PTr (O : Pred) (H : Hp) : Pred → Hp → Prop := fun O' H' => Tr O H O' H' ∧ ∀ b, O' b → H' b ≠ none
/-- .. by expressions -/
def PEx (F : Fc) (O : Pred) (H : Hp) : Pred → Hp → Prop := fun O' H' => O' = O ∧ (∃ p, Ex F H H' p) ∧ ∀ b, O' b → H' b ≠ none
section
variable {K : Fg} {P : Pred → Hp → Prop}
theorem goes_list {a : Addr} {vs : List V} {ds : List PyData} (h : ∀ O H, P O H → H a = some (.lst vs) ∧ RDs K O H ds vs) : Goes K P (Itl K a) ds where
  go := fun i O H hp hi => by
    obtain ⟨h1, h2⟩ := h O H hp
    have hv : i < vs.length := by rw [h2.length]; exact hi
    exact ⟨vs, vs[i], SqL.of h1, by simp [hv]⟩
  yld := fun i O H x H' hp hi hy => by
    obtain ⟨h1, h2⟩ := h O H hp
    obtain ⟨rfl, f⟩ := hy
    obtain ⟨d, e, r⟩ := h2.get' (f vs (SqL.of h1))
    exact ⟨d, e, fun _ _ z => z, r⟩
  stop := fun i O H hp hi => by
    obtain ⟨h1, h2⟩ := h O H hp
    exact ⟨vs, SqL.of h1, by rw [h2.length]; exact hi⟩
theorem goes_tup {a : Addr} {vs : List V} {ds : List PyData} (h : ∀ O H, P O H → SqT K H a vs ∧ RDs K O H ds vs) : Goes K P (Itt K a) ds where
  go := fun i O H hp hi => by
    obtain ⟨h1, h2⟩ := h O H hp
    have hv : i < vs.length := by rw [h2.length]; exact hi
    exact ⟨vs, vs[i], h1, by simp [hv]⟩
  yld := fun i O H x H' hp hi hy => by
    obtain ⟨h1, h2⟩ := h O H hp
    obtain ⟨rfl, f⟩ := hy
    obtain ⟨d, e, r⟩ := h2.get' (f vs h1)
    exact ⟨d, e, fun _ _ z => z, r⟩
  stop := fun i O H hp hi => by
    obtain ⟨h1, h2⟩ := h O H hp
    exact ⟨vs, h1, by rw [h2.length]; exact hi⟩
/-- lo, lo + 1, .. -/
def rangeD (lo : Int) (n : Nat) : List PyData := (List.range n).map fun i => .int (lo + (i : Nat))
theorem rangeD_len {lo : Int} {n : Nat} : (rangeD lo n).length = n := by simp [rangeD]
theorem goes_range {lo : Int} {n : Nat} : Goes K P (Itr lo n) (rangeD lo n) where
  go := fun i O H hp hi => by rw [rangeD_len] at hi; exact hi
  yld := fun i O H x H' hp hi hy => by
    obtain ⟨rfl, rfl⟩ := hy
    rw [rangeD_len] at hi
    refine ⟨.int (lo + (i : Nat)), ?_, fun _ _ z => z, by simp only [RD]⟩
    simp [rangeD, hi]
  stop := fun i O H hp hi => by rw [rangeD_len] at hi; exact hi
/-- a text's signs -/
def charsD (z : Str) : List PyData := z.cps.toList.map fun c => .str ⟨#[c]⟩
theorem charsD_len {z : Str} : (charsD z).length = z.cps.size := by simp [charsD]
theorem goes_str {z : Str} : Goes K P (Its z) (charsD z) where
  go := fun i O H hp hi => by rw [charsD_len] at hi; exact hi
  yld := fun i O H x H' hp hi hy => by
    obtain ⟨rfl, c, hc, rfl⟩ := hy
    refine ⟨.str ⟨#[c]⟩, ?_, fun _ _ z => z, by simp only [RD]⟩
    have : z.cps.toList[i]? = some c := by simpa using hc
    simp only [charsD, List.getElem?_map, this, Option.map_some]
  stop := fun i O H hp hi => by rw [charsD_len] at hi; exact hi
/-- (i, x) -/
def enumD (ds : List PyData) : List PyData := ds.zipIdx.map fun x => .tuple [.int (x.2 : Nat), x.1]
theorem enumD_len {ds : List PyData} : (enumD ds).length = ds.length := by simp [enumD]
theorem newTupRD {O : Pred} {H : Hp} {T : Addr} {ds : List PyData} {vs : List V} (hO : ∀ b, O b → H b ≠ none) (n : H T = none) (r : RDs K O H ds vs) : RD K O (upd H T (.tup vs)) (.tuple ds) (.ref T) := by
  simp only [RD]
  exact ⟨T, vs, rfl, .inl ⟨fun z => hO T z n, upd_same⟩, r.map fun b x nb e => ⟨nb, by rw [upd_ne (ne_of_none e n)]; exact e⟩⟩
theorem goes_enum {a : Addr} {vs : List V} {ds : List PyData} (h : ∀ O H, P O H → H a = some (.lst vs) ∧ RDs K O H ds vs ∧ ∀ b, O b → H b ≠ none) : Goes K P (Ite K a) (enumD ds) where
  go := fun i O H hp hi => by
    obtain ⟨h1, h2, _⟩ := h O H hp
    rw [enumD_len] at hi
    have hv : i < vs.length := by rw [h2.length]; exact hi
    exact ⟨vs, vs[i], SqL.of h1, by simp [hv]⟩
  yld := fun i O H x H' hp hi hy => by
    obtain ⟨h1, h2, h3⟩ := h O H hp
    obtain ⟨T, u, rfl, n, rfl, f⟩ := hy
    obtain ⟨d, e, r⟩ := h2.get' (f vs (SqL.of h1))
    refine ⟨.tuple [.int (i : Nat), d], ?_, fun b y z => by rw [upd_ne (ne_of_none z n)]; exact z, newTupRD h3 n (.cons (by simp only [RD]) (.cons r .nil))⟩
    simp [enumD, e]
  stop := fun i O H hp hi => by
    obtain ⟨h1, h2, _⟩ := h O H hp
    rw [enumD_len] at hi
    exact ⟨vs, SqL.of h1, by rw [h2.length]; exact hi⟩
/-- (x, y) -/
def zipD (ds es : List PyData) : List PyData := (ds.zip es).map fun x => .tuple [x.1, x.2]
theorem zipD_len {ds es : List PyData} : (zipD ds es).length = min ds.length es.length := by simp [zipD]
theorem goes_zip {a b : Addr} {vs us : List V} {ds es : List PyData} (h : ∀ O H, P O H → SqL K H a vs ∧ SqL K H b us ∧ RDs K O H ds vs ∧ RDs K O H es us ∧ ∀ b, O b → H b ≠ none) : Goes K P (Itz K a b) (zipD ds es) where
  go := fun i O H hp hi => by
    obtain ⟨h1, h1', h2, h2', _⟩ := h O H hp
    rw [zipD_len] at hi
    have hv : i < vs.length := by rw [h2.length]; omega
    have hu : i < us.length := by rw [h2'.length]; omega
    exact ⟨vs, us, vs[i], us[i], h1, h1', by simp [hv], by simp [hu]⟩
  yld := fun i O H x H' hp hi hy => by
    obtain ⟨h1, h1', h2, h2', h3⟩ := h O H hp
    obtain ⟨T, u, u', rfl, n, rfl, f, f'⟩ := hy
    obtain ⟨d, e, r⟩ := h2.get' (f vs h1)
    obtain ⟨d', e', r'⟩ := h2'.get' (f' us h1')
    refine ⟨.tuple [d, d'], ?_, fun b y z => by rw [upd_ne (ne_of_none z n)]; exact z, newTupRD h3 n (.cons r (.cons r' .nil))⟩
    have ez : (ds.zip es)[i]? = some (d, d') := List.getElem?_zip_eq_some.mpr ⟨e, e'⟩
    simp only [zipD, List.getElem?_map, ez, Option.map_some]
  stop := fun i O H hp hi => by
    obtain ⟨h1, h1', h2, h2', _⟩ := h O H hp
    rw [zipD_len] at hi
    exact ⟨vs, us, h1, h1', by rw [h2.length, h2'.length]; omega⟩
end

/-! ### for -/
def forL (t : Tg) (s : Sm) : List PyData → Sm
  | [], sl, p => some (.nx sl p)
  | d :: ds, sl, p => match asgD t d sl with
    | some sl1 => (match s sl1 p with
      | some (.nx sl2 p2) => forL t s ds sl2 p2
      | some (.ct sl2 p2) => forL t s ds sl2 p2
      | some (.bk sl2 p2) => some (.nx sl2 p2)
      | some (.rt v p2) => some (.rt v p2)
      | none => none)
    | none => none
/-- the data that are walked, the slots behind the iterable's reckoning -/
abbrev Iv := Sl → Pot → Option (List PyData × Sl × Pot)
def forS (t : Tg) (g : Iv) (s : Sm) (sl : Sl) (p : Pot) : Option Out := match g sl p with
  | some (ds, sl1, p1) => forL t s ds sl1 p1
  | none => none
def tI (K : Fg) (g : Iv) : TI := fun σ H R => ∃ F O A sl p ds sl' p', Rl K F O A sl p σ H ∧ g sl p = some (ds, sl', p') ∧ ∀ J O' A' H', Rl K F O' A' sl' p' σ H' → Tr O H O' H' → Goes K (PTr O' H') J ds → R J H'
abbrev CI (X : Cx) (tg iter : Expr) (g : Iv) : Prop := PI X tg iter (tI X.K g)
theorem PIimp {X : Cx} {tg e : Expr} {t t' : TI} (h : PI X tg e t) (i : ∀ σ H Q, t' σ H Q → t σ H Q) : PI X tg e t' := ⟨fun pins s σ H Q I w => h.run pins s σ H Q I (i σ H Q w)⟩
section
variable {X : Cx} {tg iter : Expr} {t : Tg} {g : Iv} {s : Sm} {bd : List Stmt} {pos : Pos}
theorem cs_for (hp : PassesOwn (model X.prog X.w) X.A X.env X.xe) (hc : X.calm = true) (hi : CI X tg iter g) (hg : CG X tg t) (hb : CB X bd s)
    (hs : ∀ x, foldedSetIterable iter X.env x = pure x := by intro _; rfl) : CS X (.For tg iter bd [] pos) (forS t g s) := PSimp (ps_for hp hc hi hg hb hs) fun D σ H h => by
  obtain ⟨F, O, A, sl, p, out, R, hf, q⟩ := h
  unfold forS at hf
  split at hf
  · rename_i ds sl1 p1 e1
    refine ⟨F, O, A, sl, p, ds, sl1, p1, R, e1, fun J O1 A1 H1 R1 T1 G => ?_⟩
    refine ⟨fun i m σ' H' => m = ds.length - i ∧ i ≤ ds.length ∧ ∃ O' A' sl' p', Rl X.K F O' A' sl' p' σ' H' ∧ Tr O1 H1 O' H' ∧ forL t s (ds.drop i) sl' p' = some out,
      ⟨ds.length, by simp, Nat.zero_le _, O1, A1, sl1, p1, R1, Tr.refl O1 H1, by simpa using hf⟩, ?_⟩
    rintro i m σ2 H2 ⟨rfl, hi2, O2, A2, sl2, p2, R2, T2, e2⟩
    have P2 : PTr O1 H1 O2 H2 := ⟨T2, R2.dom⟩
    by_cases hlt : i < ds.length
    · refine .inr ⟨G.go i O2 H2 P2 hlt, fun σ' H' => ∃ O' A' sl' p', Rl X.K F O' A' sl' p' σ' H' ∧ Tr O1 H1 O' H' ∧ forL t s (ds.drop (i + 1)) sl' p' = some out,
        fun σ' H' hN => ⟨ds.length - (i + 1), by omega, rfl, hlt, hN⟩, fun x H3 hy => ?_⟩
      obtain ⟨d, ed, k3, r3⟩ := G.yld i O2 H2 x H3 P2 hlt hy
      have x3 : Ex F H2 H3 p2 := ⟨fun b y _ e => k3 b y e, k3 _ _ R2.pot⟩
      have R3 := R2.exp x3
      have T3 := T2.trans (R2.tr x3)
      rw [List.drop_eq_getElem_cons hlt] at e2
      have e4 : ds[i] = d := by
        rw [List.getElem?_eq_getElem hlt] at ed
        exact Option.some.inj ed
      rw [e4] at e2
      unfold forL at e2
      split at e2
      · rename_i sl4 e5
        refine ⟨F, O2, A2, sl2, p2, d, sl4, R3, r3, e5, fun σ4 R4 _ => ?_⟩
        split at e2
        · rename_i sl5 p5 e6
          exact ⟨F, O2, A2, sl4, p2, _, R4, e6, fun O' A' σ' H' R' T' => ⟨O', A', sl5, p5, R', T3.trans T', e2⟩⟩
        · rename_i sl5 p5 e6
          exact ⟨F, O2, A2, sl4, p2, _, R4, e6, fun O' A' σ' H' R' T' => ⟨O', A', sl5, p5, R', T3.trans T', e2⟩⟩
        · rename_i sl5 p5 e6
          cases e2
          exact ⟨F, O2, A2, sl4, p2, _, R4, e6, fun O' A' σ' H' R' T' => q O' A' σ' H' R' (T1.trans (T3.trans T'))⟩
        · rename_i v p5 e6
          cases e2
          exact ⟨F, O2, A2, sl4, p2, _, R4, e6, q⟩
        · cases e2
      · cases e2
    · have ei : i = ds.length := by omega
      subst ei
      rw [List.drop_length] at e2
      simp only [forL] at e2
      cases e2
      exact .inl ⟨G.stop _ O2 H2 P2 (Nat.le_refl _), q O2 A2 σ2 H2 R2 (T1.trans T2)⟩
  · cases hf
end
end Pu
namespace Pu
open PySem PySem.Spec PyProof.Rows L2

/-! ### iterables, ahead of statements -/
/-- the slots where the value is to stay as it is -/
def calm (v : Val) (sl : Sl) : Sl := match v with
  | .ow i _ => frz1 i sl
  | .bo d => if flat d = true then sl else sl.map frzS
  | _ => sl
section
variable {K : Fg} {F : Fc} {O : Pred} {A : Nat → Addr} {sl : Sl} {p p' : Pot} {σ : L2.St} {H H' : Hp}
theorem calm_ok {v : V} {val : Val} {d : PyData} {c : Bool} (R : Rl K F O A sl p σ H) (R' : Rl K F O A sl p' σ H') (h : VR K F O A sl H H' v val) (e : val.dat = some (d, c)) :
    ∃ O', Rl K F O' A (calm val sl) p' σ H' ∧ RD K O' H' d v ∧ ∀ b, O' b → O b := by
  cases val with
  | sh d' => cases e; exact ⟨O, R', h, fun _ h => h⟩
  | fr c' => exact ⟨O, R', by have := h.dat R R' e; cases e; exact this, fun _ h => h⟩
  | is c' => exact ⟨O, R', by have := h.dat R R' e; cases e; exact this, fun _ h => h⟩
  | pot => cases e
  | bo d' =>
    cases e
    unfold calm
    dsimp only
    split
    · rename_i f
      exact ⟨O, R', RD.flat f h, fun _ h => h⟩
    · exact ⟨_, R'.frzAll, h, fun _ h => h.1⟩
  | ow i c' =>
    cases e
    obtain ⟨rfl, ei⟩ := h
    have q := R'.slot i _ ei
    refine ⟨_, R'.frz1 ei rfl, ?_, fun _ h => h.1⟩
    exact RC.rd (q.2.1.map (fun b x n e => ⟨fun h => n h.1, e⟩) fun _ h => h) fun h => h.2 rfl
end
def seqD : PyData → Option (List PyData)
  | .list ds => some ds
  | .tuple ds => some ds
  | .str z => some (charsD z)
  | _ => none
/-- for x in e -/
def itV (f : Ev) (sl : Sl) (p : Pot) : Option (List PyData × Sl × Pot) := match f sl p with
  | some (val, p1) => (match val.dat with
    | some (d, _) => (match seqD d with
      | some ds => some (ds, calm val sl, p1)
      | none => none)
    | none => none)
  | none => none
theorem tr_sub {O O' : Pred} {H : Hp} (h : ∀ b, O' b → O b) : Tr O H O' H := ⟨fun _ _ _ e => e, fun b z => .inl (h b z)⟩
theorem PI.or {X : Cx} {tg e : Expr} {t t' : TI} (h : PI X tg e t) (h' : PI X tg e t') : PI X tg e (fun σ H R => t σ H R ∨ t' σ H R) := ⟨fun pins s σ H R I w => w.elim (h.run pins s σ H R I) (h'.run pins s σ H R I)⟩
section
variable {X : Cx} {tg e a b : Expr} {f fa fb : Ev} {es : List Expr} {fs : List Ev} {pos pn tpos : Pos} {elts : List Expr} {kk : Nat}
theorem ci_val (he : CE X e f) : CI X tg e (itV f) := PIimp (PI.or (PI.or (pi_list he) (pi_tup he)) (pi_str he)) fun σ H R0 h => by
  obtain ⟨F, O, A, sl, p, ds, sl', p', R, hf, q⟩ := h
  unfold itV at hf
  split at hf
  · rename_i val p1 e1
    split at hf
    · rename_i d c e2
      split at hf
      · rename_i ds' e3
        cases hf
        have go : ∀ v H1, Ex F H H1 p' → VR X.K F O A sl H H1 v val → ∃ O', Rl X.K F O' A (calm val sl) p' σ H1 ∧ RD X.K O' H1 d v ∧ Tr O H O' H1 := fun v H1 x1 r1 => by
          obtain ⟨O', R', rd, sub⟩ := calm_ok R (R.exp x1) r1 e2
          exact ⟨O', R', rd, (R.tr x1).trans (tr_sub sub)⟩
        cases d with
        | list es =>
          cases e3
          refine .inl (.inl (tE.get R e1 fun v H1 x1 r1 => ?_))
          obtain ⟨O', R', rd, T⟩ := go v H1 x1 r1
          simp only [RD] at rd
          obtain ⟨l, vs, rfl, n, h1, h2⟩ := rd
          refine ⟨l, rfl, ⟨vs, SqL.of h1⟩, q _ O' A H1 R' T (goes_list (vs := vs) fun O2 H2 P2 => ?_)⟩
          exact ⟨P2.1.fr _ _ n h1, h2.map P2.1.map⟩
        | tuple es =>
          cases e3
          refine .inl (.inr (tE.get R e1 fun v H1 x1 r1 => ?_))
          obtain ⟨O', R', rd, T⟩ := go v H1 x1 r1
          simp only [RD] at rd
          obtain ⟨l, vs, rfl, h1, h2⟩ := rd
          have st : ∀ H2 : Hp, (∀ x, ¬ O' l → H1 l = some x → H2 l = some x) → SqT X.K H2 l vs := fun H2 k => h1.elim (fun z => SqT.of (k _ z.1 z.2)) .inr
          refine ⟨l, rfl, ⟨vs, st H1 fun _ _ e => e⟩, q _ O' A H1 R' T (goes_tup (vs := vs) fun O2 H2 P2 => ?_)⟩
          exact ⟨st H2 fun x n e => P2.1.fr _ _ n e, h2.map P2.1.map⟩
        | str z =>
          cases e3
          refine .inr (tE.get R e1 fun v H1 x1 r1 => ?_)
          obtain ⟨O', R', rd, T⟩ := go v H1 x1 r1
          exact ⟨z, rdS rd, q _ O' A H1 R' T goes_str⟩
        | _ => cases e3
      · cases hf
    · cases hf
  · cases hf
/-- range(n), range(a, b) -/
def rng1I (f : Ev) (sl : Sl) (p : Pot) : Option (List PyData × Sl × Pot) := match f sl p with
  | some (.sh (.int j), p1) => if sm62 j = true then some (rangeD 0 j.toNat, sl, p1) else none
  | _ => none
def rng2I (fa fb : Ev) (sl : Sl) (p : Pot) : Option (List PyData × Sl × Pot) := match fa sl p with
  | some (.sh (.int i), p1) => (match fb sl p1 with
    | some (.sh (.int j), p2) => if (sm62 i && sm62 j) = true then some (rangeD i (j - i).toNat, sl, p2) else none
    | _ => none)
  | _ => none
theorem shI {K : Fg} {F : Fc} {O : Pred} {A : Nat → Addr} {sl : Sl} {H H' : Hp} {v : V} {i : Int} (h : VR K F O A sl H H' v (.sh (.int i))) : v = .int i := rdI (K := K) (O := O) (H := H') h
theorem args1 {f : Ev} {sl : Sl} {p p' : Pot} {x : Val} (h : f sl p = some (x, p')) : argsE [f] sl p = some ([x], p') := by simp [argsE, h]
theorem args2 {f g : Ev} {sl : Sl} {p p1 p' : Pot} {x y : Val} (h : f sl p = some (x, p1)) (h2 : g sl p1 = some (y, p')) : argsE [f, g] sl p = some ([x, y], p') := by simp [argsE, h, h2]
theorem ci_rng1 (hm : X.mg "range" = none) (ha : CE X a fa) (hg : Gl X "range" := by rfl) (hs : starEach [a] X.env = [(false, eval a X.env)] := by rfl) : CI X tg (.Call (.Name "range" pn) [a] [] pos) (rng1I fa) := PIimp (pi_range1 hg hm (ca_cons ha ca_nil hs) hs) fun σ H R0 h => by
  obtain ⟨F, O, A, sl, p, ds, sl', p', R, hf, q⟩ := h
  unfold rng1I at hf
  split at hf
  · rename_i j p1 e1
    split at hf
    · rename_i c
      cases hf
      refine ⟨F, O, A, _, p, _, _, R, args1 e1, fun vs H1 x1 r1 => ?_⟩
      obtain ⟨v, rfl, r⟩ := r1.one
      exact ⟨j, by rw [shI r], (sm62_of c).1, (sm62_of c).2, q _ O A H1 (R.exp x1) (R.tr x1) goes_range⟩
    · cases hf
  · cases hf
theorem ci_rng2 (hm : X.mg "range" = none) (ha : CE X a fa) (hb : CE X b fb) (hg : Gl X "range" := by rfl) (hs : starEach [a, b] X.env = [(false, eval a X.env), (false, eval b X.env)] := by rfl) (hs2 : starEach [b] X.env = [(false, eval b X.env)] := by rfl) : CI X tg (.Call (.Name "range" pn) [a, b] [] pos) (rng2I fa fb) :=
  PIimp (pi_range2 hg hm (ca_cons ha (ca_cons hb ca_nil hs2) (by rw [hs, hs2])) hs hs2) fun σ H R0 h => by
  obtain ⟨F, O, A, sl, p, ds, sl', p', R, hf, q⟩ := h
  unfold rng2I at hf
  split at hf
  · rename_i i p1 e1
    split at hf
    · rename_i j p2 e2
      split at hf
      · rename_i c
        cases hf
        refine ⟨F, O, A, _, p, _, _, R, args2 e1 e2, fun vs H1 x1 r1 => ?_⟩
        obtain ⟨v, u, rfl, r, r'⟩ := r1.two
        exact ⟨i, j, by rw [shI r, shI r'], ⟨(sm62_of (Bool.and_eq_true _ _ ▸ c : _ ∧ _).1).1, (sm62_of (Bool.and_eq_true _ _ ▸ c : _ ∧ _).1).2, (sm62_of (Bool.and_eq_true _ _ ▸ c : _ ∧ _).2).1, (sm62_of (Bool.and_eq_true _ _ ▸ c : _ ∧ _).2).2⟩, q _ O A H1 (R.exp x1) (R.tr x1) goes_range⟩
      · cases hf
    · cases hf
  · cases hf
/-- enumerate(list) -/
def enumI (f : Ev) (sl : Sl) (p : Pot) : Option (List PyData × Sl × Pot) := match f sl p with
  | some (val, p1) => (match val.dat with
    | some (.list ds, _) => some (enumD ds, calm val sl, p1)
    | _ => none)
  | none => none
theorem ci_enum (hm : X.mg "enumerate" = none) (ha : CE X a fa) (hg : Gl X "enumerate" := by rfl) (hs : starEach [a] X.env = [(false, eval a X.env)] := by rfl) : CI X (.Tuple elts kk tpos) (.Call (.Name "enumerate" pn) [a] [] pos) (enumI fa) := PIimp (pi_enum hg hm (ca_cons ha ca_nil hs) hs) fun σ H R0 h => by
  obtain ⟨F, O, A, sl, p, ds, sl', p', R, hf, q⟩ := h
  unfold enumI at hf
  split at hf
  · rename_i val p1 e1
    split at hf
    · rename_i es c e2
      cases hf
      refine ⟨F, O, A, sl, p, _, _, R, args1 e1, fun vs H1 x1 r1 => ?_⟩
      obtain ⟨v, rfl, r⟩ := r1.one
      obtain ⟨O', R', rd, sub⟩ := calm_ok R (R.exp x1) r e2
      simp only [RD] at rd
      obtain ⟨l, vs, rfl, n, h1, h2⟩ := rd
      exact ⟨l, vs, rfl, SqL.of h1, q _ O' A H1 R' ((R.tr x1).trans (tr_sub sub)) (goes_enum fun O2 H2 P2 => ⟨P2.1.fr _ _ n h1, h2.map P2.1.map, P2.2⟩)⟩
    · cases hf
  · cases hf
end
end Pu
namespace Pu
open PySem PySem.Spec PyProof.Rows L2

theorem tup_same {val : Val} {ds es : List PyData} {c : Bool} (h : val.items = some (ds, true)) (e : val.dat = some (.tuple es, c)) : c = true ∧ es = ds := by
  cases val with
  | sh d => cases e; cases h; exact ⟨rfl, rfl⟩
  | bo d => cases e; cases h
  | fr d => cases e; cases h
  | is d => cases e; cases h
  | ow i d => cases e; cases h
  | pot => cases e
theorem tup_clean {val : Val} {ds es : List PyData} {c : Bool} (h : val.items = some (ds, true)) (e : val.dat = some (.tuple es, c)) : c = true := (tup_same h e).1
theorem goes_zipT {K : Fg} {P : Pred → Hp → Prop} {a b : Addr} {vs us : List V} {ds es : List PyData} (h : ∀ O H, P O H → SqT K H a vs ∧ SqT K H b us ∧ RDs K O H ds vs ∧ RDs K O H es us ∧ ∀ b, O b → H b ≠ none) : Goes K P (RZ.ItzT K a b) (zipD ds es) where
  go := fun i O H hp hi => by
    obtain ⟨h1, h1', h2, h2', _⟩ := h O H hp
    rw [zipD_len] at hi
    have hv : i < vs.length := by rw [h2.length]; omega
    have hu : i < us.length := by rw [h2'.length]; omega
    exact ⟨vs, us, vs[i], us[i], h1, h1', by simp [hv], by simp [hu]⟩
  yld := fun i O H x H' hp hi hy => by
    obtain ⟨h1, h1', h2, h2', h3⟩ := h O H hp
    obtain ⟨T, u, u', rfl, n, rfl, f, f'⟩ := hy
    obtain ⟨d, e, r⟩ := h2.get' (f vs h1)
    obtain ⟨d', e', r'⟩ := h2'.get' (f' us h1')
    have ez : (ds.zip es)[i]? = some (d, d') := List.getElem?_zip_eq_some.mpr ⟨e, e'⟩
    exact ⟨.tuple [d, d'], by simp only [zipD, List.getElem?_map, ez, Option.map_some], fun b y z => by rw [upd_ne (ne_of_none z n)]; exact z, newTupRD h3 n (.cons r (.cons r' .nil))⟩
  stop := fun i O H hp hi => by
    obtain ⟨h1, h1', h2, h2', _⟩ := h O H hp
    rw [zipD_len] at hi
    exact ⟨vs, us, h1, h1', by rw [h2.length, h2'.length]; omega⟩
/-! ### iterables within an expression: nothing is frozen, nothing is changed meanwhile -/
abbrev Jv := Sl → Pot → Option (List PyData × Pot)
def tJ (K : Fg) (g : Jv) : TI := fun σ H R => ∃ F O A sl p ds p', Rl K F O A sl p σ H ∧ g sl p = some (ds, p') ∧ ∀ J H', Ex F H H' p' → (∀ D, H' D = none → Goes K (fun O2 H2 => O2 = Oa O D ∧ (∃ p2, Ex F H' H2 p2) ∧ ∀ b, O2 b → H2 b ≠ none) J ds) → R J H'
abbrev CJ (X : Cx) (tg iter : Expr) (g : Jv) : Prop := PI X tg iter (tJ X.K g)
def itJ (f : Ev) (sl : Sl) (p : Pot) : Option (List PyData × Pot) := match f sl p with
  | some (val, p1) => (match val.dat with
    | some (.str z, _) => some (charsD z, p1)
    | _ => (match val.items with
      | some (ds, true) => some (ds, p1)
      | _ => none))
  | none => none
section
variable {K : Fg} {F : Fc} {O : Pred} {A : Nat → Addr} {sl : Sl} {p p' p2 : Pot} {σ : L2.St} {H H' H2 : Hp}
/-- clean data stay clean while a comprehension fills a new list D -/
theorem clean_map (R : Rl K F O A sl p σ H) (x : Ex F H H' p') {D : Addr} (n : H' D = none) (x2 : Ex F H' H2 p2) : ∀ b y, ¬ O b → H' b = some y → ¬ Oa O D b ∧ H2 b = some y := fun b y nb e =>
  ⟨fun z => z.elim nb fun w => (by rw [w, n] at e; cases e), x2.keep b y (fun z => nb (by rw [z]; exact R.ap)) e⟩
end
section
variable {X : Cx} {tg e a b : Expr} {f fa fb : Ev} {es : List Expr} {fs : List Ev} {pos pn tpos : Pos} {elts : List Expr} {kk : Nat}
/-- a list, whose every cell is clean, stands still while expressions are reckoned -/
theorem still {K : Fg} {F : Fc} {O : Pred} {A : Nat → Addr} {sl : Sl} {p p' p2 : Pot} {σ : L2.St} {H H' H2 : Hp} {v : V} {val : Val} {ds : List PyData} {c c' : Bool} (R : Rl K F O A sl p σ H) (x : Ex F H H' p') (r : VR K F O A sl H H' v val) (e : val.items = some (ds, c))
    {a : Addr} {vs : List V} (ev : v = .ref a) (h : H' a = some (.lst vs)) (ed : val.dat = some (.list ds, c')) (x2 : Ex F H' H2 p2) : H2 a = some (.lst vs) := by
  have R' := R.exp x
  refine x2.keep _ _ (fun z => ?_) h
  subst ev z
  cases val with
  | sh d => cases ed; have q : RD K O H' (.list ds) (.ref F.ap) := r; simp only [RD] at q; obtain ⟨a, us, ea, n, _⟩ := q; cases ea; exact n R.ap
  | bo d => cases ed; have q : RD K (Ob O A sl) H' (.list ds) (.ref F.ap) := r; simp only [RD] at q; obtain ⟨a, us, ea, n, _⟩ := q; cases ea; exact n R.boApO
  | fr d => obtain ⟨q, ea, n, _⟩ := r; cases ea; exact R.potNe n
  | is d => obtain ⟨q, ea, n, _⟩ := r; cases ea; exact R.potNe n
  | ow i d => obtain ⟨ea, ei⟩ := r; exact R.boxNe ei rfl (V.ref.inj ea).symm
  | pot => cases ed
theorem cj_val (he : CE X e f) : CJ X tg e (itJ f) := PIimp (PI.or (PI.or (pi_list he) (pi_tup he)) (pi_str he)) fun σ H R0 h => by
  obtain ⟨F, O, A, sl, p, ds, p', R, hf, q⟩ := h
  unfold itJ at hf
  split at hf
  · rename_i val p1 e1
    split at hf
    · rename_i z _ e2
      cases hf
      exact .inr (tE.get R e1 fun v H1 x1 r1 => ⟨z, rdS (r1.dat R (R.exp x1) e2), q _ H1 x1 fun D nD => goes_str⟩)
    · split at hf
      · rename_i ds' i1
        cases hf
        by_cases hl : ∃ c', val.dat = some (.list ds, c')
        · obtain ⟨c', ed⟩ := hl
          refine .inl (.inl (tE.get R e1 fun v H1 x1 r1 => ?_))
          obtain ⟨l, vs, ev, t, rd⟩ := r1.items R (R.exp x1) i1
          have h1 : H1 l = some (.lst vs) := by
            rcases t with ⟨_, _, h1⟩ | ⟨_, e3, _⟩
            · exact h1
            · rw [ed] at e3; cases e3
          refine ⟨l, ev, ⟨vs, SqL.of h1⟩, q _ H1 x1 fun D nD => goes_list (vs := vs) fun O2 H2 P2 => ?_⟩
          obtain ⟨rfl, ⟨p2, x2⟩, _⟩ := P2
          exact ⟨still R x1 r1 i1 ev h1 ed x2, rd.map (clean_map R x1 nD x2)⟩
        · refine .inl (.inr (tE.get R e1 fun v H1 x1 r1 => ?_))
          obtain ⟨_, _, _, t, _⟩ := r1.items R (R.exp x1) i1
          rcases t with ⟨c', ed, _⟩ | ⟨c', ed, _⟩
          · exact absurd ⟨c', ed⟩ hl
          have ec := tup_clean i1 ed
          subst ec
          have rt := r1.dat R (R.exp x1) ed
          simp only [RD] at rt
          obtain ⟨l, us, rfl, h2, rd⟩ := rt
          have st : ∀ (H2 : Hp) (p2 : Pot), Ex F H1 H2 p2 → SqT X.K H2 l us := fun H2 p2 x2 => h2.elim (fun z => SqT.of (x2.keep _ _ (fun w => z.1 (by rw [w]; exact R.apQ true)) z.2)) .inr
          refine ⟨l, rfl, ⟨us, st H1 p' ⟨fun _ _ _ e => e, x1.pot⟩⟩, q _ H1 x1 fun D nD => goes_tup (vs := us) fun O2 H2 P2 => ?_⟩
          obtain ⟨rfl, ⟨p2, x2⟩, _⟩ := P2
          exact ⟨st H2 p2 x2, RDs.map (clean_map R x1 nD x2) rd⟩
      · cases hf
  · cases hf
/-- ranges -/
def rng1J (f : Ev) (sl : Sl) (p : Pot) : Option (List PyData × Pot) := match f sl p with
  | some (.sh (.int j), p1) => if sm62 j = true then some (rangeD 0 j.toNat, p1) else none
  | _ => none
def rng2J (fa fb : Ev) (sl : Sl) (p : Pot) : Option (List PyData × Pot) := match fa sl p with
  | some (.sh (.int i), p1) => (match fb sl p1 with
    | some (.sh (.int j), p2) => if (sm62 i && sm62 j) = true then some (rangeD i (j - i).toNat, p2) else none
    | _ => none)
  | _ => none
theorem cj_rng1 (hm : X.mg "range" = none) (ha : CE X a fa) (hg : Gl X "range" := by rfl) (hs : starEach [a] X.env = [(false, eval a X.env)] := by rfl) : CJ X tg (.Call (.Name "range" pn) [a] [] pos) (rng1J fa) := PIimp (pi_range1 hg hm (ca_cons ha ca_nil hs) hs) fun σ H R0 h => by
  obtain ⟨F, O, A, sl, p, ds, p', R, hf, q⟩ := h
  unfold rng1J at hf
  split at hf
  · rename_i j p1 e1
    split at hf
    · rename_i c
      cases hf
      refine ⟨F, O, A, sl, p, _, _, R, args1 e1, fun vs H1 x1 r1 => ?_⟩
      obtain ⟨v, rfl, r⟩ := r1.one
      exact ⟨j, by rw [shI r], (sm62_of c).1, (sm62_of c).2, q _ H1 x1 fun D nD => goes_range⟩
    · cases hf
  · cases hf
theorem cj_rng2 (hm : X.mg "range" = none) (ha : CE X a fa) (hb : CE X b fb) (hg : Gl X "range" := by rfl) (hs : starEach [a, b] X.env = [(false, eval a X.env), (false, eval b X.env)] := by rfl) (hs2 : starEach [b] X.env = [(false, eval b X.env)] := by rfl) : CJ X tg (.Call (.Name "range" pn) [a, b] [] pos) (rng2J fa fb) :=
  PIimp (pi_range2 hg hm (ca_cons ha (ca_cons hb ca_nil hs2) (by rw [hs, hs2])) hs hs2) fun σ H R0 h => by
  obtain ⟨F, O, A, sl, p, ds, p', R, hf, q⟩ := h
  unfold rng2J at hf
  split at hf
  · rename_i i p1 e1
    split at hf
    · rename_i j p2 e2
      split at hf
      · rename_i c
        cases hf
        refine ⟨F, O, A, sl, p, _, _, R, args2 e1 e2, fun vs H1 x1 r1 => ?_⟩
        obtain ⟨v, u, rfl, r, r'⟩ := r1.two
        exact ⟨i, j, by rw [shI r, shI r'], ⟨(sm62_of (Bool.and_eq_true _ _ ▸ c : _ ∧ _).1).1, (sm62_of (Bool.and_eq_true _ _ ▸ c : _ ∧ _).1).2, (sm62_of (Bool.and_eq_true _ _ ▸ c : _ ∧ _).2).1, (sm62_of (Bool.and_eq_true _ _ ▸ c : _ ∧ _).2).2⟩, q _ H1 x1 fun D nD => goes_range⟩
      · cases hf
    · cases hf
  · cases hf
/-- zip of two lists, of two tuples -/
def zipJ (fa fb : Ev) (sl : Sl) (p : Pot) : Option (List PyData × Pot) := match fa sl p with
  | some (x, p1) => (match fb sl p1 with
    | some (y, p2) => (match x.items, y.items with
      | some (ds, true), some (es, true) => (match x.dat, y.dat with
        | some (.list _, _), some (.list _, _) => some (zipD ds es, p2)
        | some (.tuple _, _), some (.tuple _, _) => some (zipD ds es, p2)
        | _, _ => none)
      | _, _ => none)
    | none => none)
  | none => none
theorem cj_zip (hm : X.mg "zip" = none) (ha : CE X a fa) (hb : CE X b fb) (hg : Gl X "zip" := by rfl) (hs : starEach [a, b] X.env = (false, eval a X.env) :: starEach [b] X.env := by rfl) (hpl : (backTo pos (starEach [b] X.env)).any (·.1) = false := by rfl)
    (hs2 : starEach [b] X.env = (false, eval b X.env) :: starEach [] X.env := by rfl) : CJ X (.Tuple elts kk tpos) (.Call (.Name "zip" pn) [a, b] [] pos) (zipJ fa fb) :=
  PIimp (RZ.pi_zipA hg hm (ca_cons ha (ca_cons hb ca_nil hs2) hs) hs hpl) fun σ H R0 h => by
  obtain ⟨F, O, A, sl, p, ds, p', R, hf, q⟩ := h
  unfold zipJ at hf
  split at hf
  · rename_i x p1 e1
    split at hf
    · rename_i y p2 e2
      split at hf
      · rename_i ds es i1 i2
        refine ⟨F, O, A, sl, p, _, _, R, args2 e1 e2, fun vs H1 x1 r1 => ?_⟩
        obtain ⟨v, u, rfl, r, r'⟩ := r1.two
        split at hf
        · rename_i d1 c1 d2 c2 ed1 ed2
          cases hf
          obtain ⟨l, vs, ev, t, rd⟩ := r.items R (R.exp x1) i1
          obtain ⟨l', us, ev', t', rd'⟩ := r'.items R (R.exp x1) i2
          rcases t with ⟨_, e3, h1⟩ | ⟨_, e3, _⟩
          · rcases t' with ⟨_, e4, h2⟩ | ⟨_, e4, _⟩
            · exact ⟨l, l', vs, us, by rw [ev, ev'], .inl ⟨SqL.of h1, SqL.of h2, q _ H1 x1 fun D nD => goes_zip (vs := vs) (us := us) fun O2 H2 P2 => by
                obtain ⟨rfl, ⟨p3, x3⟩, dm⟩ := P2
                exact ⟨SqL.of (still R x1 r i1 ev h1 e3 x3), SqL.of (still R x1 r' i2 ev' h2 e4 x3), rd.map (clean_map R x1 nD x3), rd'.map (clean_map R x1 nD x3), dm⟩⟩⟩
            · rw [ed2] at e4; cases e4
          · rw [ed1] at e3; cases e3
        · rename_i d1 c1 d2 c2 ed1 ed2
          cases hf
          have k1 := tup_same i1 ed1
          have k2 := tup_same i2 ed2
          obtain ⟨rfl, rfl⟩ := k1
          obtain ⟨rfl, rfl⟩ := k2
          have rt := r.dat R (R.exp x1) ed1
          have rt' := r'.dat R (R.exp x1) ed2
          simp only [RD] at rt rt'
          obtain ⟨l, vs, ev, h1, rd⟩ := rt
          obtain ⟨l', us, ev', h2, rd'⟩ := rt'
          have st : ∀ {l : Addr} {vs : List V}, ((¬ Oq O A sl true l ∧ H1 l = some (.tup vs)) ∨ KT X.K l vs) → ∀ (H2 : Hp) (p2 : Pot), Ex F H1 H2 p2 → SqT X.K H2 l vs := fun h H2 p2 x2 => h.elim (fun z => SqT.of (x2.keep _ _ (fun w => z.1 (by rw [w]; exact R.apQ true)) z.2)) .inr
          have x0 : Ex F H1 H1 p' := ⟨fun _ _ _ e => e, x1.pot⟩
          exact ⟨l, l', vs, us, by rw [ev, ev'], .inr ⟨st h1 H1 _ x0, st h2 H1 _ x0, q _ H1 x1 fun D nD => goes_zipT (vs := vs) (us := us) fun O2 H2 P2 => by
            obtain ⟨rfl, ⟨p3, x3⟩, dm⟩ := P2
            exact ⟨st h1 H2 _ x3, st h2 H2 _ x3, RDs.map (clean_map R x1 nD x3) rd, RDs.map (clean_map R x1 nD x3) rd', dm⟩⟩⟩
        · cases hf
      · cases hf
    · cases hf
  · cases hf
end
end Pu
namespace Pu
open PySem PySem.Spec PyProof.Rows L2

def wipeSl (sl : Sl) : List Nat → Sl
  | [] => sl
  | v :: vs => (wipeSl sl vs).set v .un
section
variable {K : Fg} {F : Fc} {O : Pred} {A : Nat → Addr} {sl : Sl} {p p' : Pot} {σ σ' : L2.St} {H H' : Hp}
theorem Rl.setUn (R : Rl K F O A sl p σ H) (v : Nat) : Rl K F O A (sl.set v .un) p (σ.set v none) H := by
  refine ⟨R.dom, R.cur, R.cd, R.apO, R.ext, R.pot, fun j t e => ?_, fun j k u t e b e2 b2 => ?_, by rw [List.length_set, List.length_set]; exact R.len⟩
  · by_cases hj : j = v
    · subst hj
      by_cases hl : j < sl.length
      · rw [List.getElem?_set_self hl] at e
        cases e
        exact True.intro
      · rw [List.getElem?_eq_none (by simpa using hl)] at e; cases e
    · rw [List.getElem?_set_ne (Ne.symm hj)] at e
      have q := R.slot j t e
      have es : (σ.set v none)[j]? = σ[j]? := List.getElem?_set_ne (Ne.symm hj)
      cases t with
      | un => exact True.intro
      | sh d => obtain ⟨v', e1, r⟩ := q; exact ⟨v', by rw [es]; exact e1, r⟩
      | own c => obtain ⟨e1, r⟩ := q; exact ⟨by rw [es]; exact e1, r⟩
      | iso c => obtain ⟨e1, r⟩ := q; exact ⟨by rw [es]; exact e1, r⟩
      | pot => exact (by rw [es]; exact q : (σ.set v none)[j]? = some (some (.ref F.ap)))
  · have ne : ∀ {j : Nat} {u : Slot}, (sl.set v .un)[j]? = some u → isBox u = true → sl[j]? = some u := fun {j u} e b => by
      by_cases hj : j = v
      · subst hj
        by_cases hl : j < sl.length
        · rw [List.getElem?_set_self hl] at e
          cases e; cases b
        · rw [List.getElem?_eq_none (by simpa using hl)] at e; cases e
      · rw [List.getElem?_set_ne (Ne.symm hj)] at e
        exact e
    exact R.inj j k u t (ne e b) b (ne e2 b2) b2
theorem Rl.wipe (R : Rl K F O A sl p σ H) : ∀ vs : List Nat, Rl K F O A (wipeSl sl vs) p (L2.wipe σ vs) H
  | [] => R
  | v :: vs => (R.wipe vs).setUn v
theorem wipe_get (τ : L2.St) (i : Nat) : ∀ vs : List Nat, (L2.wipe τ vs)[i]? = if i ∈ vs then (if i < τ.length then some none else none) else τ[i]?
  | [] => by simp [L2.wipe]
  | v :: vs => by
    have ih := wipe_get τ i vs
    show ((L2.wipe τ vs).set v none)[i]? = _
    by_cases h : v = i
    · subst h
      by_cases hl : v < τ.length
      · rw [List.getElem?_set_self (by rw [wipe_length]; exact hl)]
        simp [hl]
      · rw [List.getElem?_eq_none (by rw [List.length_set, wipe_length]; omega)]
        simp [hl]
    · rw [List.getElem?_set_ne h, ih]
      by_cases h2 : i ∈ vs
      · simp [h2]
      · simp [h2, Ne.symm h]
theorem Ag.wipe {is vs : List Nat} (g : Ag is (L2.wipe σ vs) σ') (h : ∀ i ∈ is, i ∈ vs) : L2.wipe σ' vs = L2.wipe σ vs := by
  apply List.ext_getElem?
  intro i
  rw [wipe_get, wipe_get]
  have hl : σ'.length = σ.length := g.1.trans (wipe_length σ vs)
  by_cases hi : i ∈ vs
  · rw [if_pos hi, if_pos hi, hl]
  · rw [if_neg hi, if_neg hi, g.2 i fun z => hi (h i z), wipe_get, if_neg hi]
/-- a list outside of everything is changed -/
theorem Rl.updD (R : Rl K F O A sl p σ H) {D : Addr} {o : HO} (hO : O D) (hn : F.H0 D = none) (nb : ∀ i s, sl[i]? = some s → isBox s = true → A i ≠ D) : Rl K F O A sl p σ (upd H D o) := by
  have na : D ≠ F.ap := fun z => R.cd _ R.apO (by rw [← z]; exact hn)
  have m : ∀ b x, ¬ O b → H b = some x → ¬ O b ∧ upd H D o b = some x := fun b x n e => ⟨n, by rw [upd_ne (fun z => n (by rw [z]; exact hO))]; exact e⟩
  refine ⟨fun b h => ?_, R.cur, R.cd, R.apO, fun b x n e => ?_, by rw [upd_ne (Ne.symm na)]; exact R.pot, fun i s e => ?_, R.inj, R.len⟩
  · by_cases z : b = D
    · subst z; rw [upd_same]; exact fun q => nomatch q
    · rw [upd_ne z]; exact R.dom b h
  · rw [upd_ne (fun z => by rw [z, hn] at e; cases e)]
    exact R.ext b x n e
  · have q := R.slot i s e
    cases s with
    | un => exact True.intro
    | sh d => obtain ⟨v, e1, r⟩ := q; exact ⟨v, e1, r.map m⟩
    | own c =>
      have ne := nb i _ e rfl
      obtain ⟨e1, r, o1, z⟩ := q
      exact ⟨e1, r.map m (fun x h => by rw [upd_ne ne]; exact h), o1, z⟩
    | iso c =>
      have ne := nb i _ e rfl
      obtain ⟨e1, r, o1, z, t⟩ := q
      refine ⟨e1, r.map fun b x n eb => ⟨n, ?_⟩, o1, z, by rw [upd_ne ne]; exact t⟩
      rw [upd_ne (fun w => n ⟨by rw [w]; exact hO, fun w2 => ne (by rw [← w2, w])⟩)]
      exact eb
    | pot => exact q
end

/-! ### comprehensions -/
def compL (t : Tg) (ft fe : Ev) (sl : Sl) : List PyData → Pot → Option (List PyData × Pot)
  | [], p => some ([], p)
  | d :: ds, p => match asgD t d sl with
    | some sl1 => (match ft sl1 p with
      | some (.sh (.bool true), p1) => (match fe sl1 p1 with
        | some (val, p2) => (match val.dat with
          | some (e, true) => (match compL t ft fe sl ds p2 with
            | some (es, p3) => some (e :: es, p3)
            | none => none)
          | _ => none)
        | none => none)
      | some (.sh (.bool false), p1) => compL t ft fe sl ds p1
      | _ => none)
    | none => none
def lcE (t : Tg) (g : Jv) (ft fe : Ev) (vs : List Nat) (sl : Sl) (p : Pot) : Option (Val × Pot) := match g sl p with
  | some (ds, p1) => (match compL t ft fe (wipeSl sl vs) ds p1 with
    | some (es, p2) => if es.length ≤ sizeLine then some (.fr (.list es), p2) else none
    | none => none)
  | none => none
def yesE : Ev := constE (.bool true)
theorem tE_lc {K : Fg} {t : Tg} {g : Jv} {ft fe : Ev} {vs : List Nat} (hv : ∀ i ∈ t.ix, i ∈ vs) : ∀ σ H Q, tE K (lcE t g ft fe vs) σ H Q → tLc (tJ K g) (tG K t) (tT K ft) (tE K fe) vs σ H Q := fun σ H Q h => by
  obtain ⟨F, O, A, sl, p, val, p', R, hf, q⟩ := h
  unfold lcE at hf
  split at hf
  · rename_i ds p1 e1
    split at hf
    · rename_i es p2 e2
      split at hf
      · rename_i hz
        cases hf
        refine ⟨F, O, A, sl, p, ds, p1, R, e1, fun J H1 x1 G D nD => ?_⟩
        have G := G D nD
        have R1 := R.exp x1
        have nD0 : H D = none := by
          cases z : H D with
          | none => rfl
          | some u =>
            by_cases w : D = F.ap
            · rw [w] at nD; exact absurd nD R1.potNe
            · rw [x1.keep D u w z] at nD; cases nD
        have hD0 : F.H0 D = none := R.h0 nD0
        have nbox : ∀ i s, (wipeSl sl vs)[i]? = some s → isBox s = true → A i ≠ D := fun i s e b => by
          have Rw := R1.wipe vs
          obtain ⟨_, _, x, hx⟩ := Rw.box e b
          intro z
          rw [z, nD] at hx; cases hx
        have xn := Ex.new R1 (o := .lst []) nD
        have RD0 : Rl K F (Oa O D) A (wipeSl sl vs) p1 (L2.wipe σ vs) (upd H1 D (.lst [])) := (R1.add nD xn (by rw [upd_same]; exact fun z => nomatch z)).wipe vs
        refine ⟨fun i m H2 => m = ds.length - i ∧ i ≤ ds.length ∧ ∃ (p3 : Pot) (rest accd : List PyData) (acc : List V), Rl K F (Oa O D) A (wipeSl sl vs) p3 (L2.wipe σ vs) H2 ∧ (∃ p4, Ex F H1 H2 p4) ∧ H2 D = some (.lst acc) ∧ RDs K (Oa O D) H2 accd acc ∧
            compL t ft fe (wipeSl sl vs) (ds.drop i) p3 = some (rest, p') ∧ accd ++ rest = es,
          ⟨ds.length, by simp, Nat.zero_le _, p1, es, [], [], RD0, ⟨p1, xn⟩, upd_same, .nil, by simpa using e2, rfl⟩, ?_⟩
        rintro i m H2 ⟨rfl, hi, p3, rest, accd, acc, R2, ⟨p4, x2⟩, hD2, rd2, e3, ees⟩
        have P2 : (fun O2 H2 => O2 = Oa O D ∧ (∃ p2, Ex F H1 H2 p2) ∧ ∀ b, O2 b → H2 b ≠ none) (Oa O D) H2 := ⟨rfl, ⟨p4, x2⟩, R2.dom⟩
        by_cases hlt : i < ds.length
        · refine .inr ⟨G.go i _ H2 P2 hlt, fun H' => ∃ (p3 : Pot) (rest accd : List PyData) (acc : List V), Rl K F (Oa O D) A (wipeSl sl vs) p3 (L2.wipe σ vs) H' ∧ (∃ p4, Ex F H1 H' p4) ∧ H' D = some (.lst acc) ∧ RDs K (Oa O D) H' accd acc ∧
              compL t ft fe (wipeSl sl vs) (ds.drop (i + 1)) p3 = some (rest, p') ∧ accd ++ rest = es,
            fun H' hN => ⟨ds.length - (i + 1), by omega, rfl, hlt, hN⟩, fun x H3 hy => ?_⟩
          obtain ⟨d, ed, k3, r3⟩ := G.yld i _ H2 x H3 P2 hlt hy
          have x3 : Ex F H2 H3 p3 := ⟨fun b y _ e => k3 b y e, k3 _ _ R2.pot⟩
          have R3 := R2.exp x3
          have e4 : ds[i] = d := by
            rw [List.getElem?_eq_getElem hlt] at ed
            exact Option.some.inj ed
          rw [List.drop_eq_getElem_cons hlt, e4] at e3
          unfold compL at e3
          split at e3
          · rename_i sl1 e5
            refine ⟨F, Oa O D, A, wipeSl sl vs, p3, d, sl1, R3, r3, e5, fun σ4 R4 g4 => ⟨g4.wipe hv, ?_⟩⟩
            -- what every way of the turn ends with
            have back : ∀ {H5 : Hp} {p5 : Pot}, Ex F H3 H5 p5 → Rl K F (Oa O D) A (wipeSl sl vs) p5 (L2.wipe σ vs) H5 := fun {H5 p5} x5 => R3.exp x5
            have naD : D ≠ F.ap := fun z => R.potNe (by rw [← z]; exact nD0)
            split at e3
            · rename_i p5 e6
              refine ⟨F, Oa O D, A, sl1, p3, true, p5, R4, e6, fun H5 x5 => iteT ?_⟩
              split at e3
              · rename_i val p6 e7
                split at e3
                · rename_i e e8
                  split at e3
                  · rename_i es' p7 e9
                    cases e3
                    refine tE.get (R4.exp x5) e7 fun v H6 x6 r6 => ?_
                    have x36 := x5.trans x6
                    have re : RD K (Oa O D) H6 e v := r6.dat (R4.exp x5) ((R4.exp x5).exp x6) e8
                    have x26 := x3.trans x36
                    have hD6 : H6 D = some (.lst acc) := x26.keep _ _ naD hD2
                    have rd6 : RDs K (Oa O D) H6 accd acc := rd2.map (ex_map R2.ap x26)
                    have lacc := rd6.length
                    have les : accd.length < es.length := by rw [← ees]; simp
                    have R6 := back x36
                    have mD : ∀ b x, ¬ Oa O D b → H6 b = some x → ¬ Oa O D b ∧ upd H6 D (.lst (acc ++ [v])) b = some x := fun b x n e => ⟨n, by rw [upd_ne (fun z => n (.inr z))]; exact e⟩
                    refine ⟨acc, hD6, by omega, p6, es', accd ++ [e], acc ++ [v], R6.updD (.inr rfl) hD0 nbox, ⟨p6, ?_⟩, upd_same, (rd6.append (.cons re .nil)).map mD, e9, by rw [List.append_assoc]; exact ees⟩
                    refine ⟨fun b y n e => ?_, ?_⟩
                    · rw [upd_ne (fun z => by rw [z, nD] at e; cases e)]
                      exact (x2.trans x26).keep b y n e
                    · rw [upd_ne (Ne.symm naD)]; exact x36.pot
                  · cases e3
                · cases e3
              · cases e3
            · rename_i p5 e6
              refine ⟨F, Oa O D, A, sl1, p3, false, p5, R4, e6, fun H5 x5 => iteF ?_⟩
              have x25 := x3.trans x5
              exact ⟨p5, rest, accd, acc, back x5, ⟨p5, x2.trans x25⟩, x25.keep _ _ naD hD2, rd2.map (ex_map R2.ap x25), e3, ees⟩
            · cases e3
          · cases e3
        · have ei : i = ds.length := by omega
          subst ei
          rw [List.drop_length] at e3
          simp only [compL] at e3
          cases e3
          rw [List.append_nil] at ees
          subst ees
          exact .inl ⟨G.stop _ _ H2 P2 (Nat.le_refl _), q _ H2 (x1.trans ⟨x2.keep, R2.pot⟩) ⟨D, rfl, nD0, acc, hD2, rd2⟩⟩
      · cases hf
    · cases hf
  · cases hf
section
variable {X : Cx} {elt tg iter c : Expr} {ifs : List Expr} {scope : Scope} {pos : Pos} {t : Tg} {g : Jv} {ft fe f : Ev}
theorem cts_nil : PTs X [] (tT X.K yesE) := ⟨fun pins s σ H Q I h => pts_nil.run pins s σ H Q I (by
  obtain ⟨F, O, A, sl, p, b, p', R, hf, q⟩ := h
  cases hf
  exact q H (Ex.refl R))⟩
theorem cts_one (h : CT X c f) : PTs X [c] (tT X.K f) := pts_one h
theorem ce_lc (own : List (Str × Nat)) (hc : X.calm = true) (hN : X.N.Nodup) (hi : CJ X tg iter g) (ok : BlkOk X.N X.env.scope scope own)
    (hg : ∀ (s : Shared) (H : Hp) (C : Addr) (cl : List (Str × Addr)) (fp : List Addr), CG (X.blk s H scope (compEnvC scope cl C X.env) fp) tg t) (ht : ∀ (s : Shared) (H : Hp) (C : Addr) (cl : List (Str × Addr)) (fp : List Addr), PTs (X.blk s H scope (compEnvC scope cl C X.env) fp) ifs (tT X.K ft))
    (he : ∀ (s : Shared) (H : Hp) (C : Addr) (cl : List (Str × Addr)) (fp : List Addr), CE (X.blk s H scope (compEnvC scope cl C X.env) fp) elt fe)
    (hv : ∀ i ∈ t.ix, i ∈ own.map (·.2) := by decide) (hs : ∀ x, foldedSetIterable iter X.env x = pure x := by intro _; rfl) : CE X (.ListComp elt [⟨tg, iter, ifs, 0⟩] scope pos) (lcE t g ft fe (own.map (·.2))) :=
  PEimp (pe_lc (own := own) hc hN hi ok hg ht he hs) (tE_lc hv)
theorem cs_setLc (own : List (Str × Nat)) {y : Str} {py spos : Pos} (i : Nat) (hc : X.calm = true) (hN : X.N.Nodup) (hi : CJ X tg iter g) (ok : BlkOk X.N X.env.scope scope own)
    (hg : ∀ (s : Shared) (H : Hp) (C : Addr) (cl : List (Str × Addr)) (fp : List Addr), CG (X.blk s H scope (compEnvC scope cl C X.env) fp) tg t) (ht : ∀ (s : Shared) (H : Hp) (C : Addr) (cl : List (Str × Addr)) (fp : List Addr), PTs (X.blk s H scope (compEnvC scope cl C X.env) fp) ifs (tT X.K ft))
    (he : ∀ (s : Shared) (H : Hp) (C : Addr) (cl : List (Str × Addr)) (fp : List Addr), CE (X.blk s H scope (compEnvC scope cl C X.env) fp) elt fe)
    (hsw : swapsWith (.ListComp elt [⟨tg, iter, ifs, 0⟩] scope pos) (some (.Name y py)) spos.line X.env = pure true)
    (hy : X.N[i]? = some y := by rfl) (hyl : X.env.scope.names.lookup y = some .local := by rfl) (hv : ∀ i ∈ t.ix, i ∈ own.map (·.2) := by decide) (hs : ∀ x, foldedSetIterable iter X.env x = pure x := by intro _; rfl) : CS X (.Assign [.Name y py] (.ListComp elt [⟨tg, iter, ifs, 0⟩] scope pos) spos) (setS i (lcE t g ft fe (own.map (·.2)))) :=
  PSimp (ps_setLc (own := own) hc hN hy hyl hsw hi ok hg ht he hs) fun D σ H h => by
    obtain ⟨F, O, A, sl, p, out, R, hf, q⟩ := h
    unfold setS at hf
    split at hf
    · rename_i val p1 e1
      obtain ⟨sl', e2, rfl⟩ := Option.map_eq_some_iff.mp hf
      refine tE_lc hv σ H _ (tE.get R e1 fun v H1 x1 r1 => ?_)
      obtain ⟨O', A', R', T⟩ := asg_ok R x1 r1 e2
      exact q O' A' _ H1 R' T
    · cases hf
end
end Pu
namespace Pu
open PySem PySem.Spec PyProof.Rows L2

section
variable {K : Fg} {F : Fc} {O : Pred} {A : Nat → Addr} {sl : Sl} {p p' : Pot} {σ σ' : L2.St} {H H' : Hp}
/-- the container of slot i is changed -/
theorem Rl.write (R : Rl K F O A sl p σ H) {i : Nat} {c c' : PyData} {o : HO} (ei : sl[i]? = some (.own c)) (h : RC K O (upd H (A i) o) c' (A i)) : Rl K F O A (sl.set i (.own c')) p σ (upd H (A i) o) := by
  obtain ⟨es, rc, oi, zi⟩ := R.slot i _ ei
  have na := R.boxNe ei rfl
  have hi : i < sl.length := (List.getElem?_eq_some_iff.mp ei).1
  have m : ∀ b x, ¬ O b → H b = some x → ¬ O b ∧ upd H (A i) o b = some x := fun b x n e => ⟨n, by rw [upd_ne (fun z => n (by rw [z]; exact oi))]; exact e⟩
  refine ⟨fun b hb => ?_, R.cur, R.cd, R.apO, fun b x n e => ?_, by rw [upd_ne (Ne.symm na)]; exact R.pot, fun j s e => ?_, fun j k u t e b e2 b2 => ?_, by rw [List.length_set]; exact R.len⟩
  · by_cases z : b = A i
    · subst z; rw [upd_same]; exact fun q => nomatch q
    · rw [upd_ne z]; exact R.dom b hb
  · rw [upd_ne (fun z => by rw [z, zi] at e; cases e)]
    exact R.ext b x n e
  · by_cases hj : j = i
    · subst hj
      rw [List.getElem?_set_self hi] at e
      cases e
      exact ⟨es, h, oi, zi⟩
    · rw [List.getElem?_set_ne (Ne.symm hj)] at e
      have q := R.slot j s e
      cases s with
      | un => exact True.intro
      | sh d => obtain ⟨v, e1, r⟩ := q; exact ⟨v, e1, r.map m⟩
      | own c =>
        have ne : A j ≠ A i := fun z => hj (R.inj j i _ _ e rfl ei rfl z)
        obtain ⟨e1, r, o1, z⟩ := q
        exact ⟨e1, r.map m (fun x h => by rw [upd_ne ne]; exact h), o1, z⟩
      | iso c =>
        have ne : A j ≠ A i := fun z => hj (R.inj j i _ _ e rfl ei rfl z)
        obtain ⟨e1, r, o1, z, t⟩ := q
        refine ⟨e1, r.map fun b x n eb => ⟨n, ?_⟩, o1, z, by rw [upd_ne ne]; exact t⟩
        rw [upd_ne (fun w => n ⟨by rw [w]; exact oi, fun w2 => ne (by rw [← w2, w])⟩)]
        exact eb
      | pot => exact q
  · have ne : ∀ {j : Nat} {u : Slot}, (sl.set i (.own c'))[j]? = some u → isBox u = true → ∃ u', sl[j]? = some u' ∧ isBox u' = true := fun {j u} e b => by
      by_cases hj : j = i
      · subst hj
        exact ⟨_, ei, rfl⟩
      · rw [List.getElem?_set_ne (Ne.symm hj)] at e
        exact ⟨u, e, b⟩
    obtain ⟨u', e', b'⟩ := ne e b
    obtain ⟨t', e2', b2'⟩ := ne e2 b2
    exact R.inj j k u' t' e' b' e2' b2'
theorem Rl.trW (R : Rl K F O A sl p σ H) {i : Nat} {c : PyData} {o : HO} (ei : sl[i]? = some (.own c)) : Tr O H O (upd H (A i) o) := by
  obtain ⟨es, rc, oi, zi⟩ := R.slot i _ ei
  exact ⟨fun b x n e => by rw [upd_ne (fun z => n (by rw [z]; exact oi))]; exact e, fun _ h => .inl h⟩
theorem Rl.mapW (R : Rl K F O A sl p σ H) {i : Nat} {c : PyData} {o : HO} (ei : sl[i]? = some (.own c)) : ∀ b x, ¬ O b → H b = some x → ¬ O b ∧ upd H (A i) o b = some x := fun b x n e => ⟨n, (R.trW ei).fr b x n e⟩
end

section
variable {K : Fg} {F : Fc} {O : Pred} {A : Nat → Addr} {sl : Sl} {p p' : Pot} {σ σ' : L2.St} {H H' : Hp}
/-- the list of an iso slot is changed, the slot is given up -/
theorem Rl.drop (R : Rl K F O A sl p σ H) {i : Nat} {c : PyData} {o : HO} (ei : sl[i]? = some (.iso c)) : Rl K F O A (sl.set i .un) p σ (upd H (A i) o) ∧ Tr O H O (upd H (A i) o) := by
  obtain ⟨es, rc, oi, zi, ti⟩ := R.slot i _ ei
  have na := R.boxNe ei rfl
  have hi : i < sl.length := (List.getElem?_eq_some_iff.mp ei).1
  have m : ∀ b x, ¬ O b → H b = some x → ¬ O b ∧ upd H (A i) o b = some x := fun b x n e => ⟨n, by rw [upd_ne (fun z => n (by rw [z]; exact oi))]; exact e⟩
  refine ⟨⟨fun b hb => ?_, R.cur, R.cd, R.apO, fun b x n e => ?_, by rw [upd_ne (Ne.symm na)]; exact R.pot, fun j s e => ?_, fun j k u t e b e2 b2 => ?_, by rw [List.length_set]; exact R.len⟩, fun b x n e => (m b x n e).2, fun _ h => .inl h⟩
  · by_cases z : b = A i
    · subst z; rw [upd_same]; exact fun q => nomatch q
    · rw [upd_ne z]; exact R.dom b hb
  · rw [upd_ne (fun z => by rw [z, zi] at e; cases e)]
    exact R.ext b x n e
  · by_cases hj : j = i
    · subst hj
      rw [List.getElem?_set_self hi] at e
      cases e
      exact True.intro
    · rw [List.getElem?_set_ne (Ne.symm hj)] at e
      have q := R.slot j s e
      cases s with
      | un => exact True.intro
      | sh d => obtain ⟨v, e1, r⟩ := q; exact ⟨v, e1, r.map m⟩
      | own c =>
        have ne : A j ≠ A i := fun z => hj (R.inj j i _ _ e rfl ei rfl z)
        obtain ⟨e1, r, o1, z⟩ := q
        exact ⟨e1, r.map m (fun x h => by rw [upd_ne ne]; exact h), o1, z⟩
      | iso c =>
        have ne : A j ≠ A i := fun z => hj (R.inj j i _ _ e rfl ei rfl z)
        obtain ⟨e1, r, o1, z, t⟩ := q
        refine ⟨e1, r.map fun b x n eb => ⟨n, ?_⟩, o1, z, by rw [upd_ne ne]; exact t⟩
        rw [upd_ne (fun w => n ⟨by rw [w]; exact oi, fun w2 => ne (by rw [← w2, w])⟩)]
        exact eb
      | pot => exact q
  · have old : ∀ {j : Nat} {u : Slot}, (sl.set i .un)[j]? = some u → isBox u = true → sl[j]? = some u := fun {j u} e b => by
      by_cases hj : j = i
      · subst hj
        rw [List.getElem?_set_self hi] at e
        cases e; cases b
      · rw [List.getElem?_set_ne (Ne.symm hj)] at e
        exact e
    exact R.inj j k u t (old e b) b (old e2 b2) b2
end
/-- x.append(e) -/
def appS (i : Nat) (f : Ev) (sl : Sl) (p : Pot) : Option Out := match sl[i]? with
  | some (.iso (.list ds)) => (match f sl p with
    | some (.sh _, p1) => if ds.length < sizeLine then some (.nx (sl.set i .un) p1) else none
    | _ => none)
  | some (.own (.list _)) => (match f sl p with
    | some (val, p1) => (match val.dat with
      | some (d, _) => (match (calm val sl)[i]? with
        | some (.own (.list ds)) => if ds.length < sizeLine then some (.nx ((calm val sl).set i (.own (.list (ds ++ [d])))) p1) else none
        | _ => none)
      | none => none)
    | none => none)
  | _ => none
/-- x.extend(e) -/
def extS (i : Nat) (f : Ev) (sl : Sl) (p : Pot) : Option Out := match sl[i]? with
  | some (.own (.list ds)) => (match f sl p with
    | some (val, p1) => (match val.dat, val.items with
      | some (.list _, _), some (es, true) => if ds.length + es.length ≤ sizeLine then some (.nx (sl.set i (.own (.list (ds ++ es)))) p1) else none
      | _, _ => none)
    | none => none)
  | _ => none
section
variable {X : Cx} {e : Expr} {f : Ev} {pos cpos apos np : Pos} {x : Str}
theorem cs_append (i : Nat) (he : CE X e f) (hN : X.N[i]? = some x := by rfl) (hv : Vis X.env.scope x := by first | exact Or.inl rfl | exact Or.inr (Or.inl rfl) | exact Or.inr (Or.inr rfl)) (hd : (x == ("__debug__" : Str)) = false := by decide) (hcd : (x == ("__classdict__" : Str)) = false := by decide)
    (h1 : starEach [e] X.env = (false, eval e X.env) :: starEach [] X.env := by rfl) (h2 : attributeBase (.Name x np) "append" X.env (eval (.Name x np) X.env) = eval (.Name x np) X.env := by rfl)
    (h3 : (((backTo cpos (starEach [e] X.env)).all fun x => !x.fst) && (backToKw cpos (keywordEach [] X.env)).all (fun x => x.fst.isSome) && decide (([e] : List Expr).length + ([] : List Keyword).length + (if ([] : List Keyword).isEmpty = true then 0 else 1) < 30)) = true := by rfl)
    (h4 : (apos.endLine == cpos.line) = true := by rfl) (h5 : ((backTo cpos (starEach [] X.env)).any fun x => x.fst) = false := by rfl)
    (hs : swapsWith (.Call (.Attribute (.Name x np) "append" apos) [e] [] cpos) none pos.line X.env = pure false := by rfl) :
    CS X (.Expr (.Call (.Attribute (.Name x np) "append" apos) [e] [] cpos) pos) (appS i f) :=
  PSimp (ps_expr (pe_bm PySem.F.plainAttrs_list PySem.F.slot_list_append PySem.F.type_list_append mt_append (pe_var hN hv hd hcd) (ca_cons he ca_nil h1) h2 h3 h4 h1 h5) hs) fun D σ H h => by
    obtain ⟨F, O, A, sl, p, out, R, hf, q⟩ := h
    unfold appS at hf
    split at hf
    · rename_i ds ei
      obtain ⟨es, rc, oi, zi, ti⟩ := R.slot i _ ei
      simp only [RD] at rc
      obtain ⟨a0, vs0, ea0, na0, hl0, rs0⟩ := rc
      cases ea0
      refine ⟨_, es, .inl ⟨rfl, vs0, SqL.of hl0⟩, ?_⟩
      split at hf
      · rename_i d p1 e1
        split at hf
        · rename_i hz
          cases hf
          refine ⟨F, O, A, sl, p, _, _, R, args1 e1, fun vs H1 x1 r1 => ?_⟩
          obtain ⟨v, rfl, r⟩ := r1.one
          have hl1 := x1.keep _ _ (R.boxNe ei rfl) hl0
          obtain ⟨R2, T2⟩ := (R.exp x1).drop (o := .lst (vs0 ++ [v])) ei
          exact ⟨A i, vs0, v, rfl, rfl, hl1, by rw [rs0.length]; exact hz, q O A σ _ R2 ((R.tr x1).trans T2)⟩
        · cases hf
      · cases hf
    · rename_i ds0 ei
      obtain ⟨es, rc, oi, zi⟩ := R.slot i _ ei
      obtain ⟨vs0, hl0, _⟩ := id rc
      refine ⟨_, es, .inl ⟨rfl, vs0, SqL.of hl0⟩, ?_⟩
      split at hf
      · rename_i val p1 e1
        split at hf
        · rename_i d cc e2
          split at hf
          · rename_i ds e3
            split at hf
            · rename_i hz
              cases hf
              refine ⟨F, O, A, sl, p, _, _, R, args1 e1, fun vs H1 x1 r1 => ?_⟩
              obtain ⟨v, rfl, r⟩ := r1.one
              obtain ⟨O', R', rd, sub⟩ := calm_ok R (R.exp x1) r e2
              obtain ⟨es', rc', oi', zi'⟩ := R'.slot i _ e3
              obtain ⟨us, hl, rs⟩ := rc'
              refine ⟨A i, us, v, rfl, rfl, hl, by rw [rs.length]; exact hz, ?_⟩
              refine q O' A σ _ (R'.write e3 ⟨us ++ [v], upd_same, (rs.append (.cons rd .nil)).map (R'.mapW e3)⟩) ?_
              exact ((R.tr x1).trans (tr_sub sub)).trans (R'.trW e3)
            · cases hf
          · cases hf
        · cases hf
      · cases hf
    · cases hf
theorem cs_extend (i : Nat) (he : CE X e f) (hN : X.N[i]? = some x := by rfl) (hv : Vis X.env.scope x := by first | exact Or.inl rfl | exact Or.inr (Or.inl rfl) | exact Or.inr (Or.inr rfl)) (hd : (x == ("__debug__" : Str)) = false := by decide) (hcd : (x == ("__classdict__" : Str)) = false := by decide)
    (h1 : starEach [e] X.env = (false, eval e X.env) :: starEach [] X.env := by rfl) (h2 : attributeBase (.Name x np) "extend" X.env (eval (.Name x np) X.env) = eval (.Name x np) X.env := by rfl)
    (h3 : (((backTo cpos (starEach [e] X.env)).all fun x => !x.fst) && (backToKw cpos (keywordEach [] X.env)).all (fun x => x.fst.isSome) && decide (([e] : List Expr).length + ([] : List Keyword).length + (if ([] : List Keyword).isEmpty = true then 0 else 1) < 30)) = true := by rfl)
    (h4 : (apos.endLine == cpos.line) = true := by rfl) (h5 : ((backTo cpos (starEach [] X.env)).any fun x => x.fst) = false := by rfl)
    (hs : swapsWith (.Call (.Attribute (.Name x np) "extend" apos) [e] [] cpos) none pos.line X.env = pure false := by rfl) :
    CS X (.Expr (.Call (.Attribute (.Name x np) "extend" apos) [e] [] cpos) pos) (extS i f) :=
  PSimp (ps_expr (pe_bm PySem.F.plainAttrs_list PySem.F.slot_list_extend PySem.F.type_list_extend mt_extend (pe_var hN hv hd hcd) (ca_cons he ca_nil h1) h2 h3 h4 h1 h5) hs) fun D σ H h => by
    obtain ⟨F, O, A, sl, p, out, R, hf, q⟩ := h
    unfold extS at hf
    split at hf
    · rename_i ds ei
      obtain ⟨es, rc, oi, zi⟩ := R.slot i _ ei
      obtain ⟨vs0, hl0, _⟩ := id rc
      refine ⟨_, es, .inl ⟨rfl, vs0, SqL.of hl0⟩, ?_⟩
      split at hf
      · rename_i val p1 e1
        split at hf
        · rename_i d0 c0 ws e2 e3
          split at hf
          · rename_i hz
            cases hf
            refine ⟨F, O, A, sl, p, _, _, R, args1 e1, fun vs H1 x1 r1 => ?_⟩
            obtain ⟨v, rfl, r⟩ := r1.one
            have R1 := R.exp x1
            obtain ⟨a, us, rfl, t, rw'⟩ := r.items R R1 e3
            obtain ⟨_, rc1, _, _⟩ := R1.slot i _ ei
            obtain ⟨vs, hl, rs⟩ := rc1
            rcases t with ⟨_, _, ha⟩ | ⟨_, e4, _⟩
            · refine ⟨A i, a, vs, us, rfl, rfl, hl, ha, by rw [rs.length, rw'.length]; exact hz, ?_⟩
              exact q O A σ _ (R1.write ei ⟨vs ++ us, upd_same, RDs.map (R1.mapW ei) (rs.append rw')⟩) ((R.tr x1).trans (R1.trW ei))
            · rw [e2] at e4; cases e4
          · cases hf
        · cases hf
      · cases hf
    · cases hf
/-- a, b, .. = e, e a tuple -/
def unpS (ts : List Tg) (f : Ev) (sl : Sl) (p : Pot) : Option Out := match f sl p with
  | some (val, p1) => (match val.dat with
    | some (d, _) => (match asgD (.tp ts) d (calm val sl) with
      | some sl' => some (.nx sl' p1)
      | none => none)
    | none => none)
  | none => none
theorem cs_unp {tg : Expr} {ts : List Tg} (he : CE X e f) (hg : CG X tg (.tp ts)) (hs : swapsWithSole [tg] e pos.line X.env = pure false := by rfl) (hw : swappedStores [tg] e X.env = pure none := by rfl)
    (h1 : (assignEach [tg] X.env).map (·.2) = [assign tg X.env] := by rfl) : CS X (.Assign [tg] e pos) (unpS ts f) := PSimp (ps_asg he hg hs hw h1) fun D σ H h => by
  obtain ⟨F, O, A, sl, p, out, R, hf, q⟩ := h
  unfold unpS at hf
  split at hf
  · rename_i val p1 e1
    split at hf
    · rename_i d c e2
      split at hf
      · rename_i sl' e3
        cases hf
        refine tE.get R e1 fun v H1 x1 r1 => ?_
        obtain ⟨O', R', rd, sub⟩ := calm_ok R (R.exp x1) r1 e2
        exact ⟨F, O', A, _, _, d, sl', R', rd, e3, fun σ2 R2 _ => q O' A σ2 H1 R2 ((R.tr x1).trans (tr_sub sub))⟩
      · cases hf
    · cases hf
  · cases hf
end
end Pu
namespace Pu
open PySem PySem.Spec PyProof.Rows L2

/-! ### what a def is worth -/
abbrev Fn := List Slot → Pot → Option (Val × Pot)
def ArgsR (K : Fg) (Oc : Pred) (ap : Addr) (H : Hp) : List Slot → List V → Prop
  | [], [] => True
  | .sh d :: as, v :: vs => RD K Oc H d v ∧ ArgsR K Oc ap H as vs
  | .pot :: as, v :: vs => v = .ref ap ∧ ArgsR K Oc ap H as vs
  | _, _ => False
theorem ArgsR.length {K : Fg} {Oc : Pred} {ap : Addr} {H : Hp} : ∀ {as : List Slot} {vs : List V}, ArgsR K Oc ap H as vs → vs.length = as.length
  | [], [], _ => rfl
  | .sh d :: as, v :: vs, h => by simp [ArgsR.length h.2]
  | .pot :: as, v :: vs, h => by simp [ArgsR.length h.2]
  | [], _ :: _, h => h.elim
  | .sh _ :: _, [], h => h.elim
  | .pot :: _, [], h => h.elim
  | .un :: _, [], h => h.elim
  | .un :: _, _ :: _, h => h.elim
  | .own _ :: _, [], h => h.elim
  | .own _ :: _, _ :: _, h => h.elim
  | .iso _ :: _, [], h => h.elim
  | .iso _ :: _, _ :: _, h => h.elim
def spF (K : Fg) (n : Nat) (G : Fn) (vs : List V) (H : Hp) (Q : VK) : Prop := vs.length = n ∧ ∃ (ap : Addr) (Oc : Pred) (as : List Slot) (p : Pot) (val : Val) (p' : Pot), (∀ b, Oc b → H b ≠ none) ∧ Oc ap ∧ H ap = some (.lst [.int p.1, .int p.2]) ∧
  ArgsR K Oc ap H as vs ∧ G as p = some (val, p') ∧ ∀ v H', RetR K ⟨ap, H, Oc⟩ val v H' p' → Q v H'
/-- the def at f answers as G says, wherever no repr is under way -/
structure FnG (P : Program) (w : World) (K : Fg) (mg : Str → Option Value) (base : Heap) (k : Nat) (f : Addr) (fd : FuncData) (ps : List Str) (G : Fn) : Prop where
  run : ∀ (A : Around) (outer : List Env) (s : Shared) (H : Hp) (args : Args) (us : List Value) (vs : List V) (Q : VK), A.guards = some [] → Room k A → Env0 P w K mg base A outer s H → BindsTo s fd args (ps.zip us) → Vals vs us → spF K ps.length G vs H Q →
    codeAny (model P w) A (.call (.ref f) args) (CR CX0 outer P w H s Q E0) s
theorem FnG.mono {P : Program} {w : World} {K : Fg} {mg : Str → Option Value} {base : Heap} {j k : Nat} {f : Addr} {fd : FuncData} {ps : List Str} {G : Fn} (F : FnG P w K mg base j f fd ps G) (h : j ≤ k) : FnG P w K mg base k f fd ps G :=
  ⟨fun A outer s H args us vs Q hg hr => F.run A outer s H args us vs Q hg (hr.mono h)⟩

/-! ### calls of such defs -/
def argsOf : List Val → Option (List Slot × Bool)
  | [] => some ([], true)
  | .pot :: xs => (match argsOf xs with
    | some (as, c) => some (.pot :: as, c)
    | none => none)
  | x :: xs => match x.dat, argsOf xs with
    | some (d, c), some (as, c') => some (.sh d :: as, c && c')
    | _, _ => none
def flatA : List Slot → Bool
  | [] => true
  | .sh d :: as => flat d && flatA as
  | .pot :: as => flatA as
  | _ => false
def isL : PyData → Bool
  | .list _ => true
  | _ => false
def resV (c : Bool) (as : List Slot) : Val → Val
  | .sh d => if flat d = true then .sh d else if (c && flatA as && isL d) = true then .is d else shq c d
  | .fr d => if c = true then .fr d else .bo d
  | v => v
def callF (G : Fn) (fs : List Ev) (sl : Sl) (p : Pot) : Option (Val × Pot) := match argsE fs sl p with
  | some (xs, p1) => (match argsOf xs with
    | some (as, c) => (match G as p1 with
      | some (val, p2) => some (resV c as val, p2)
      | none => none)
    | none => none)
  | none => none
section
variable {K : Fg} {F : Fc} {O : Pred} {A : Nat → Addr} {sl : Sl} {p p' p1 : Pot} {σ : L2.St} {H H' H1 : Hp}
theorem args_ok (R : Rl K F O A sl p σ H) (R' : Rl K F O A sl p' σ H') : ∀ {vs : List V} {xs : List Val} {as : List Slot} {c : Bool}, VRs K F O A sl H H' vs xs → argsOf xs = some (as, c) → ArgsR K (Oq O A sl c) F.ap H' as vs
  | [], [], _, _, _, e => by cases e; exact True.intro
  | v :: vs, x :: xs, as, c, h, e => by
    have weak : ∀ {as : List Slot} {vs : List V} {c1 c2 : Bool}, ArgsR K (Oq O A sl c2) F.ap H' as vs → ArgsR K (Oq O A sl (c1 && c2)) F.ap H' as vs := fun {as vs c1 c2} => by
      intro h
      induction as generalizing vs with
      | nil => cases vs with
        | nil => exact h
        | cons _ _ => exact h.elim
      | cons a as ih =>
        cases vs with
        | nil => cases a <;> exact h.elim
        | cons v vs =>
          cases a with
          | sh d => exact ⟨RD.both' h.1, ih h.2⟩
          | pot => exact ⟨h.1, ih h.2⟩
          | _ => exact h.elim
    have gen : ∀ (d : PyData) (c1 : Bool) (as' : List Slot) (c2 : Bool), x.dat = some (d, c1) → argsOf xs = some (as', c2) → ArgsR K (Oq O A sl (c1 && c2)) F.ap H' (.sh d :: as') (v :: vs) := fun d c1 as' c2 e1 e2 =>
      ⟨RD.both (h.1.dat R R' e1), weak (args_ok R R' h.2 e2)⟩
    cases x with
    | pot =>
      simp only [argsOf] at e
      split at e
      · rename_i as' c' e2
        cases e
        exact ⟨h.1, args_ok R R' h.2 e2⟩
      · cases e
    | sh d => simp only [argsOf] at e; split at e <;> first | (rename_i e1 e2; cases e; exact gen _ _ _ _ e1 e2) | cases e
    | bo d => simp only [argsOf] at e; split at e <;> first | (rename_i e1 e2; cases e; exact gen _ _ _ _ e1 e2) | cases e
    | fr d => simp only [argsOf] at e; split at e <;> first | (rename_i e1 e2; cases e; exact gen _ _ _ _ e1 e2) | cases e
    | ow i d => simp only [argsOf] at e; split at e <;> first | (rename_i e1 e2; cases e; exact gen _ _ _ _ e1 e2) | cases e
    | is d => simp only [argsOf] at e; split at e <;> first | (rename_i e1 e2; cases e; exact gen _ _ _ _ e1 e2) | cases e
  | [], _ :: _, _, _, h, _ => h.elim
  | _ :: _, [], _, _, h, _ => h.elim
theorem args_flat {O1 O2 : Pred} {ap : Addr} : ∀ {as : List Slot} {vs : List V}, flatA as = true → ArgsR K O1 ap H as vs → ArgsR K O2 ap H as vs
  | [], [], _, _ => True.intro
  | .sh d :: as, v :: vs, f, h => by
    simp only [flatA, Bool.and_eq_true] at f
    exact ⟨h.1.flat f.1, args_flat f.2 h.2⟩
  | .pot :: as, v :: vs, f, h => ⟨h.1, args_flat f h.2⟩
  | [], _ :: _, _, h => h.elim
  | .sh _ :: _, [], _, h => h.elim
  | .pot :: _, [], _, h => h.elim
  | .un :: _, _, f, _ => by cases f
  | .own _ :: _, _, f, _ => by cases f
  | .iso _ :: _, _, f, _ => by cases f
theorem argsE_len : ∀ {fs : List Ev} {sl : Sl} {p p' : Pot} {xs : List Val}, argsE fs sl p = some (xs, p') → xs.length = fs.length
  | [], _, _, _, _, e => by cases e; rfl
  | f :: fs, sl, p, p', xs, e => by
    simp only [argsE] at e
    split at e
    · split at e
      · rename_i e5
        cases e
        simp [argsE_len e5]
      · cases e
    · cases e
theorem argsOf_len : ∀ {xs : List Val} {as : List Slot} {c : Bool}, argsOf xs = some (as, c) → as.length = xs.length
  | [], _, _, e => by cases e; rfl
  | x :: xs, as, c, e => by
    cases x with
    | pot =>
      simp only [argsOf] at e
      split at e
      · rename_i e2; cases e; simp [argsOf_len e2]
      · cases e
    | _ =>
      simp only [argsOf] at e
      split at e
      · rename_i e2; cases e; simp [argsOf_len e2]
      · cases e
/-- from the caller's reading to the callee's promise, and back -/
theorem call_ok {G : Fn} {n : Nat} {vs : List V} {xs : List Val} {as : List Slot} {c : Bool} {val : Val} {Q : VK} (R : Rl K F O A sl p σ H) (x1 : Ex F H H1 p1) (rs : VRs K F O A sl H H1 vs xs) (e1 : argsOf xs = some (as, c)) (e2 : G as p1 = some (val, p')) (hn : as.length = n)
    (q : ∀ v H', Ex F H H' p' → VR K F O A sl H H' v (resV c as val) → Q v H') : spF K n G vs H1 Q := by
  have R1 := R.exp x1
  have ar := args_ok R R1 rs e1
  refine ⟨by rw [ar.length]; exact hn, ?_⟩
  have exOf : ∀ {Oc : Pred} {v : V} {H' : Hp}, RetR K ⟨F.ap, H1, Oc⟩ val v H' p' → Ex F H1 H' p' := fun h => ⟨h.1, h.2.1⟩
  by_cases up : (c && flatA as) = true ∧ ∃ ds, val = .sh (.list ds)
  · obtain ⟨u1, ds, rfl⟩ := up
    simp only [Bool.and_eq_true] at u1
    refine ⟨F.ap, fun b => H1 b ≠ none, as, p1, _, p', fun b h => h, R1.potNe, R1.pot, args_flat u1.2 ar, e2, fun v H' h => ?_⟩
    have x2 := exOf h
    refine q v H' (x1.trans x2) ?_
    have er : resV c as (.sh (.list ds)) = .is (.list ds) := by
      simp only [resV]
      rw [if_neg (by simp [flat]), if_pos (by simp [u1.1, u1.2, isL])]
    rw [er]
    have rd := h.2.2
    have rd' : RD K (fun b => H1 b ≠ none) H' (.list ds) v := rd
    simp only [RD] at rd
    obtain ⟨a, us, rfl, na, ha, _⟩ := rd
    have n1 : H1 a = none := Classical.not_not.mp na
    have r0 : VR K F O A sl H1 H' (.ref a) (.is (.list ds)) := ⟨a, rfl, n1, by rw [ha]; exact fun z => (nomatch z), rd'.map fun b y nb e => ⟨fun z => nb (R1.dom b z), e⟩⟩
    exact r0.back x1
  · refine ⟨F.ap, Oq O A sl c, as, p1, val, p', fun b h => R1.dom b (by
      cases c with
      | true => exact h
      | false => exact h.1), R.apQ c, R1.pot, ar, e2, fun v H' h => ?_⟩
    have x2 := exOf h
    refine q v H' (x1.trans x2) ?_
    have no : ∀ q0, H1 q0 = none → ¬ Oq O A sl c q0 := fun q0 n z => R1.dom q0 (by
      cases c with
      | true => exact z
      | false => exact z.1) n
    cases val with
    | sh d =>
      have rd : RD K (Oq O A sl c) H' d v := h.2.2
      simp only [resV]
      by_cases f : flat d = true
      · rw [if_pos f]
        exact RD.flat f rd
      · rw [if_neg f]
        by_cases g : (c && flatA as && isL d) = true
        · exfalso
          simp only [Bool.and_eq_true] at g
          cases d with
          | list ds => exact up ⟨by simp [g.1.1, g.1.2], ds, rfl⟩
          | _ => cases g.2
        · rw [if_neg g]
          exact VR.shq rd
    | fr d =>
      obtain ⟨q0, rfl, n0, rc⟩ := h.2.2
      simp only [resV]
      cases c with
      | true =>
        have r0 : VR K F O A sl H1 H' (.ref q0) (.fr d) := ⟨q0, rfl, n0, rc⟩
        exact r0.back x1
      | false => exact RC.rd (O := Ob O A sl) (rc.map (fun b y nb e => ⟨fun z => nb (.inl z), e⟩) fun _ z => z) (no q0 n0)
    | pot => exact h.2.2
    | bo d => exact h.2.2.elim
    | ow i d => exact h.2.2.elim
    | is d => exact h.2.2.elim
end
section
variable {X : Cx} {k : Nat} {f : Addr} {fd : FuncData} {ps : List Str} {G : Fn} {x : Str} {e : Expr} {es : List Expr} {fs : List Ev} {pos pn : Pos} {ds : List Value}
theorem run_fnG {pins : List (Addr × Obj)} {σ : L2.St} {H : Hp} {s : Shared} {Q : VK} {us : List Value} {vs : List V} (F : FnG X.prog X.w X.K X.mg X.base k f fd ps G) (hgd : X.A.guards = some []) (hr : Room k X.A) (hb : Binds X.K fd ps [])
    (I : Inv X pins σ H s) (r : Vals vs us) (h : spF X.K ps.length G vs H Q) : wpAny (model X.prog X.w) X.A (call (.ref f) us) (EP X pins σ Q) X.xe s := by
  have hl : us.length = ps.length := r.length.symm.trans h.1
  have bt := hb s us I.kIn (by rw [List.append_nil]; exact hl)
  rw [List.append_nil] at bt
  refine wpAny_call (codeAny_mono (F.run X.A X.stack s H ⟨us, []⟩ us vs Q hgd hr I.env0 bt r h) fun res s' hq => ?_)
  cases res with
  | error _ => exact hq.elim
  | ok fl => cases fl with
    | ret u => exact I.after hq
    | _ => exact hq.elim
/-- f(e, ..) -/
theorem ce_call (F : FnG X.prog X.w X.K X.mg X.base k f fd ps G) (hgd : X.A.guards = some []) (hr : Room k X.A) (hm : X.mg x = some (.ref f)) (hk : PySem.W.keepIn X.K (.ref f) = true) (hb : Binds X.K fd ps []) (ha : CA X (e :: es) fs) (hlen : fs.length = ps.length := by rfl)
    (hg : Gl X x := by rfl) (hdb : (x == ("__debug__" : Str)) = false := by decide) (he : starEach (e :: es) X.env = (false, eval e X.env) :: starEach es X.env := by rfl) (hpl : (backTo pos (starEach es X.env)).any (·.1) = false := by rfl) :
    CE X (.Call (.Name x pn) (e :: es) [] pos) (callF G fs) := by
  refine ⟨fun pins s σ H Q I h => ?_⟩
  obtain ⟨Fc, O, A, sl, p, val, p', R, hf, q⟩ := h
  unfold callF at hf
  split at hf
  · rename_i xs p1 e1
    split at hf
    · rename_i as c e2
      split at hf
      · rename_i v0 p2 e3
        cases hf
        refine wpAny_Call_Name_kw (ld_glob I hg hm ?_ hdb)
        have pa := ha.run pos pins s σ H (fun vs H1 => spF X.K ps.length G vs H1 Q) I ⟨Fc, O, A, sl, p, xs, p1, R, e1, fun vs H1 x1 r1 => ?_⟩
        · exact PySem.W.callWith_K (h₀ := X.base) I.ok.mod.kin hk (thn pa fun us s1 ⟨vs, H1, I1, r, w⟩ => ⟨I1.kIn, run_fnG F hgd hr hb I1 r w⟩) he hpl
        · refine call_ok R x1 r1 e2 e3 ?_ q
          rw [argsOf_len e2, argsE_len e1, hlen]
      · cases hf
    · cases hf
  · cases hf
end
end Pu
namespace Pu
open PySem PySem.Spec PyProof.Rows L2

def fillSl (n : Nat) (as : List Slot) : Sl := as ++ List.replicate (n - as.length) .un
/-- what a body is worth -/
def defF (n : Nat) (s : Sm) (as : List Slot) (p : Pot) : Option (Val × Pot) := match s (fillSl n as) p with
  | some (.rt v p') => some (v, p')
  | some (.nx _ p') => some (.sh .none, p')
  | _ => none
theorem args_slot {K : Fg} {Oc : Pred} {ap : Addr} {H : Hp} {n : Nat} : ∀ {as : List Slot} {vs : List V} {i : Nat} {s : Slot}, ArgsR K Oc ap H as vs → (as ++ List.replicate n Slot.un)[i]? = some s →
    (isBox s = false) ∧ (match s with
      | .sh d => ∃ v, (vs.map some ++ List.replicate n none : L2.St)[i]? = some (some v) ∧ RD K Oc H d v
      | .pot => (vs.map some ++ List.replicate n none : L2.St)[i]? = some (some (.ref ap))
      | .un => True
      | _ => False)
  | [], [], i, s, _, e => by
    simp only [List.nil_append, List.getElem?_replicate] at e
    split at e
    · cases e; exact ⟨rfl, True.intro⟩
    · cases e
  | .sh d :: as, v :: vs, 0, s, h, e => by
    simp at e; subst e
    exact ⟨rfl, v, rfl, h.1⟩
  | .pot :: as, v :: vs, 0, s, h, e => by
    simp at e; subst e
    refine ⟨rfl, ?_⟩
    have := h.1
    subst this
    rfl
  | .sh d :: as, v :: vs, i + 1, s, h, e => by simpa using args_slot (i := i) h.2 (by simpa using e)
  | .pot :: as, v :: vs, i + 1, s, h, e => by simpa using args_slot (i := i) h.2 (by simpa using e)
  | [], _ :: _, _, _, h, _ => h.elim
  | .sh _ :: _, [], _, _, h, _ => h.elim
  | .pot :: _, [], _, _, h, _ => h.elim
  | .un :: _, [], _, _, h, _ => h.elim
  | .un :: _, _ :: _, _, _, h, _ => h.elim
  | .own _ :: _, [], _, _, h, _ => h.elim
  | .own _ :: _, _ :: _, _, _, h, _ => h.elim
  | .iso _ :: _, [], _, _, h, _ => h.elim
  | .iso _ :: _, _ :: _, _, _, h, _ => h.elim
theorem entry {K : Fg} {Oc : Pred} {ap : Addr} {H : Hp} {as : List Slot} {vs : List V} {p : Pot} {n m : Nat} (hd : ∀ b, Oc b → H b ≠ none) (ho : Oc ap) (hp : H ap = some (.lst [.int p.1, .int p.2])) (h : ArgsR K Oc ap H as vs) :
    Rl K ⟨ap, H, Oc⟩ Oc (fun _ => 0) (as ++ List.replicate n .un) p (vs.map some ++ List.replicate n none) H := by
  refine ⟨hd, fun _ h => h, hd, ho, fun _ _ _ e => e, hp, fun i s e => ?_, fun i j s t e b _ _ _ => ?_, ?_⟩
  · have q := (args_slot h e).2
    cases s with
    | un => exact True.intro
    | sh d => exact q
    | pot => exact q
    | own c => exact q.elim
    | iso c => exact q.elim
  · rw [(args_slot h e).1] at b; cases b
  · simp [h.length]
section
variable {P : Program} {w : World} {K : Fg} {mg : Str → Option Value} {base : Heap}
abbrev bodyX (P : Program) (w : World) (K : Fg) (mg : Str → Option Value) (base : Heap) (N : List Str) (qual : Str) (st : Stmt) (f : Addr) (cdv : Value) (A : Around) (outer : List Env) (s : Shared) (H : Hp) (E : XK) : Cx :=
  (cxOf CX0 P w K mg base N qual (defScope st) f cdv A outer s H E).nox
/-- THE RULE: a def by its body's reading -/
theorem FnG.of {x qual : Str} {st : Stmt} {f : Addr} {fd : FuncData} {N ps : List Str} {k : Nat} {sm : Sm} (F : Fun K x qual st f fd) (S : FnScope N ps (defScope st))
    (hbody : ∀ (cdv : Value) (A : Around) (outer : List Env) (s : Shared) (H : Hp), (bodyX P w K mg base N qual st f cdv A outer s H E0).A.guards = some [] → Room k (bodyX P w K mg base N qual st f cdv A outer s H E0).A →
      CB (bodyX P w K mg base N qual st f cdv A outer s H E0) (defBody st) sm) : FnG P w K mg base (k + 1) f fd ps (defF N.length sm) := by
  obtain ⟨oc, od, kV, doc, pm, an, cdv, ct, osl, rfl, lk, hcd⟩ := F.ex
  refine ⟨fun A outer s H args us vs Q hgd hr e0 hb r hsp => ?_⟩
  obtain ⟨hl, ap, Oc, as, p, val, p', hdm, hoc, hpot, har, hG, hQ⟩ := hsp
  have KX : K.In s.heap := e0.mod.kin.keeps fun b o e => (e0.bs b o e).1
  have lim : s.heap.NoLimit := e0.mod.nolimit.keeps fun b o e => (e0.bs b o e).1
  have kinds : ∀ y ∈ ps.zip us, (defScope st).names.lookup y.1 = some .local ∨ ((defScope st).names.lookup y.1 = some .cell ∧ ((cellsFrom (s.heap.objs.size + 1) (defScope st).names []).lookup y.1).isSome = true) := by
    rintro ⟨n, v⟩ hy
    have q := S.par n (List.of_mem_zip hy).1
    exact q.elim .inl fun z => .inr ⟨z, PySem.W.cellsFrom_some _ _ _ (.inl z)⟩
  refine codeAny_call_function hr.depth (KX _ _ lk) rfl S.co S.gen rfl (PySem.W.codeRec_of KX hcd) (hb _ _ _ _ ?_)
  refine wpAny_newFunctionEnv_cells S.kind kinds fun env he s1 x1 => ?_
  subst he
  refine ⟨lim.keeps x1.toInCall.keep, codeAny_func ?_⟩
  have hr' : Room k (A.deeper (envOfC qual (defScope st) s.heap.objs.size f cdv)) := hr.deeper _
  have body := hbody cdv A outer s H hgd hr'
  have I := inv_start (CX := CX0) (E := E0) S hr.hd e0 hl r x1
  -- the reading
  have hN : ps.length ≤ N.length := by
    have e := congrArg List.length S.pre
    rw [List.length_take] at e
    omega
  have la := har.length
  have R := entry (n := N.length - vs.length) (m := 0) hdm hoc hpot har
  have rd : tS K sm { nx := fun _ H' => Q .non H', rt := Q } (start N vs) H := by
    unfold defF at hG
    have hf : fillSl N.length as = as ++ List.replicate (N.length - vs.length) .un := by unfold fillSl; rw [la]
    rw [hf] at hG
    split at hG
    · rename_i v1 p1 e1
      cases hG
      exact ⟨_, Oc, _, _, p, _, R, e1, hQ⟩
    · rename_i sl1 p1 e1
      cases hG
      exact ⟨_, Oc, _, _, p, _, R, e1, fun O' A' σ' H' R' T => hQ .non H' ⟨R'.ext, R'.pot, by show RD K Oc H' .none .non; simp only [RD]⟩⟩
    · cases hG
  have walked := body.nox.run [] s1 (start N vs) H { nx := fun _ H' => Q .non H', rt := Q } I rd
  refine wpAny_mono walked (fun fl s' hs => ?_) fun e s' hs => hs
  have fin : ∀ {σ' : L2.St} {H' : Hp} {v : V} {u : Value}, Inv (cxOf CX0 P w K mg base N qual (defScope st) f cdv A outer s H E0) [] σ' H' s' → RelV v u → Q v H' → L2.CE outer P w H s Q u s' :=
    fun {σ' H' v u} J rv q => ⟨v, H', J.os, J.bare, J.base, J.hok, rv, q⟩
  cases fl with
  | next => obtain ⟨σ', H', J, q⟩ := hs; exact fin (v := V.non) (u := Value.none) J rfl q
  | ret u => obtain ⟨v, σ', H', J, rv, q⟩ := hs; exact fin J rv q
  | brk => obtain ⟨_, _, _, q⟩ := hs; exact q.elim
  | cont => obtain ⟨_, _, _, q⟩ := hs; exact q.elim
end
end Pu
namespace Pu
open PySem PySem.Spec PyProof.Rows L2

/-! ### several values at once: each one knows nothing of the new containers of the others -/
def VP (K : Fg) (F : Fc) (O : Pred) (H H' : Hp) (v : V) : Val → Prop
  | .sh d => RD K O H' d v
  | .is d => RD K O H' d v
  | .fr c => ∃ q, v = .ref q ∧ H q = none ∧ RC K O H' c q ∧ O q
  | .pot => v = .ref F.ap
  | _ => True
/-- none of the new containers is at q -/
def NotAt (q : Addr) : List V → List Val → Prop
  | v :: vs, .fr _ :: xs => v ≠ .ref q ∧ NotAt q vs xs
  | _ :: vs, _ :: xs => NotAt q vs xs
  | _, _ => True
def VPs (K : Fg) (F : Fc) (O : Pred) (H H' : Hp) : List V → List Val → Prop
  | [], [] => True
  | v :: vs, x :: xs => VP K F O H H' v x ∧ (∀ c q, x = .fr c → v = .ref q → NotAt q vs xs) ∧ VPs K F O H H' vs xs
  | _, _ => False
def tP (K : Fg) (fs : List Ev) : TA := fun σ H Q => ∃ F O A sl p xs p', Rl K F O A sl p σ H ∧ argsE fs sl p = some (xs, p') ∧
  ∀ vs H' O', Rl K F O' A sl p' σ H' → Tr O H O' H' → (∀ b, O b → O' b) → (∃ p2, Ex F H H' p2) → VPs K F O' H H' vs xs → Q vs H'
abbrev CP (X : Cx) (es : List Expr) (fs : List Ev) : Prop := PA X es (tP X.K fs)
theorem VPs.notAt {K : Fg} {F : Fc} {O : Pred} {H H' : Hp} {q : Addr} (h : H q ≠ none) : ∀ {vs : List V} {xs : List Val}, VPs K F O H H' vs xs → NotAt q vs xs
  | [], [], _ => True.intro
  | v :: vs, x :: xs, r => by
    have ih := VPs.notAt h r.2.2
    cases x with
    | fr c =>
      obtain ⟨q', e, n, _⟩ := r.1
      exact ⟨fun z => h (by rw [e] at z; cases z; exact n), ih⟩
    | _ => exact ih
  | [], _ :: _, r => r.elim
  | _ :: _, [], r => r.elim
theorem VPs.back {K : Fg} {F : Fc} {O : Pred} {H H1 H' : Hp} (nn : ∀ q, H1 q = none → H q = none) : ∀ {vs : List V} {xs : List Val}, VPs K F O H1 H' vs xs → VPs K F O H H' vs xs
  | [], [], _ => True.intro
  | v :: vs, x :: xs, r => by
    refine ⟨?_, r.2.1, VPs.back nn r.2.2⟩
    have h := r.1
    cases x with
    | fr c =>
      obtain ⟨q', e, n, rest⟩ := h
      exact ⟨q', e, nn q' n, rest⟩
    | _ => exact h
  | [], _ :: _, r => r.elim
  | _ :: _, [], r => r.elim
section
variable {X : Cx} {e : Expr} {es : List Expr} {f : Ev} {fs : List Ev}
theorem cp_nil : CP X [] [] := PAimp pa_nil fun σ H Q h => by
  obtain ⟨F, O, A, sl, p, xs, p', R, hf, q⟩ := h
  cases hf
  exact q [] H O R (Tr.refl O H) (fun _ h => h) ⟨_, Ex.refl R⟩ True.intro
theorem cp_cons (ha : CE X e f) (hr : CP X es fs) (hs : starEach (e :: es) X.env = (false, eval e X.env) :: starEach es X.env := by rfl) : CP X (e :: es) (f :: fs) := PAimp (pa_cons ha hr hs) fun σ H Q h => by
  obtain ⟨F, O, A, sl, p, vals, p', R, hf, q⟩ := h
  simp only [argsE] at hf
  split at hf
  · rename_i x p1 e1
    split at hf
    · rename_i xs p2 e2
      cases hf
      refine tE.get R e1 fun v H1 x1 r1 => ?_
      have R1 := R.exp x1
      have nn : ∀ q, H1 q = none → H q = none := fun q0 n => by
        cases z : H q0 with
        | none => rfl
        | some u =>
          by_cases w : q0 = F.ap
          · rw [w] at n; exact absurd n R1.potNe
          · rw [x1.keep q0 u w z] at n; cases n
      by_cases isf : ∃ c, x = .fr c
      · obtain ⟨c, rfl⟩ := isf
        obtain ⟨q0, rfl, n0, rc⟩ := r1
        obtain ⟨o0, ho⟩ := rc.there
        have t0 : H1 q0 ≠ none := by rw [ho]; exact fun z => nomatch z
        have R2 := R.add n0 x1 t0
        refine ⟨F, Oa O q0, A, sl, p1, xs, p', R2, e2, fun vs H2 O2 R3 T3 s3 ⟨p3, x3⟩ r3 => ?_⟩
        have nap : q0 ≠ F.ap := fun z => R.potNe (by rw [← z]; exact n0)
        refine q (.ref q0 :: vs) H2 O2 R3 (Tr.trans (O1 := Oa O q0) (H1 := H1) ⟨(R.tr x1).fr, fun b h => h.elim .inl fun z => .inr (by rw [z]; exact n0)⟩ T3) (fun b h => s3 b (.inl h)) ⟨p3, x1.trans x3⟩ ⟨⟨q0, rfl, n0, ?_, s3 q0 (.inr rfl)⟩, fun c' q' _ e' => ?_, r3.back nn⟩
        · exact rc.map (T3.map) (fun y hy => x3.keep _ _ nap hy)
        · cases e'
          exact VPs.notAt t0 r3
      · refine ⟨F, O, A, sl, p1, xs, p', R1, e2, fun vs H2 O2 R3 T3 s3 ⟨p3, x3⟩ r3 => ?_⟩
        refine q (v :: vs) H2 O2 R3 ((R.tr x1).trans T3) s3 ⟨p3, x1.trans x3⟩ ⟨?_, fun c' q' ec _ => absurd ⟨c', ec⟩ isf, r3.back nn⟩
        cases x with
        | sh d => exact RD.map T3.map r1
        | is d => obtain ⟨_, _, _, _, rd⟩ := r1; exact RD.map T3.map rd
        | fr c => exact absurd ⟨c, rfl⟩ isf
        | pot => exact r1
        | _ => exact True.intro
    · cases hf
  · cases hf
end
def asgP (i : Nat) (x : Val) (sl : Sl) : Option Sl := if i < sl.length then (match x with
  | .sh d => some (sl.set i (.sh d))
  | .is d => some (sl.set i (.sh d))
  | .fr c => some (sl.set i (.own c))
  | .pot => some (sl.set i .pot)
  | _ => none) else none
def asgPs : List Nat → List Val → Sl → Option Sl
  | [], [], sl => some sl
  | i :: is, x :: xs, sl => (match asgP i x sl with
    | some sl1 => asgPs is xs sl1
    | none => none)
  | _, _, _ => none
def setAll (σ : L2.St) : List Nat → List V → L2.St
  | i :: is, v :: vs => setAll (σ.set i (some v)) is vs
  | _, _ => σ
section
variable {K : Fg} {F : Fc} {O : Pred} {p : Pot} {H H' : Hp}
theorem asgPs_ok : ∀ {is : List Nat} {vs : List V} {xs : List Val} {A : Nat → Addr} {sl sl' : Sl} {σ : L2.St}, Rl K F O A sl p σ H' → VPs K F O H H' vs xs → (∀ b, F.H0 b ≠ none → H b ≠ none) → (∀ j t, sl[j]? = some t → isBox t = true → NotAt (A j) vs xs) → asgPs is xs sl = some sl' →
    ∃ A', Rl K F O A' sl' p (setAll σ is vs) H'
  | [], [], [], A, sl, sl', σ, R, _, _, _, e => by simp only [asgPs] at e; cases e; exact ⟨A, R⟩
  | i :: is, v :: vs, x :: xs, A, sl, sl', σ, R, r, h0, nb, e => by
    simp only [asgPs] at e
    split at e
    · rename_i sl1 e1
      obtain ⟨rv, rn, rr⟩ := r
      unfold asgP at e1
      split at e1
      · rename_i hi
        have nb' : ∀ {s : Slot}, isBox s = false → ∀ j t, (sl.set i s)[j]? = some t → isBox t = true → NotAt (A j) (v :: vs) (x :: xs) := fun {s} bs j t ej bj => by
          by_cases z : j = i
          · subst z
            rw [List.getElem?_set_self hi] at ej
            cases ej
            rw [bs] at bj; cases bj
          · rw [List.getElem?_set_ne (Ne.symm z)] at ej
            exact nb j t ej bj
        have tail : ∀ {q : Addr}, NotAt q (v :: vs) (x :: xs) → NotAt q vs xs := fun {q} h => by
          cases x with
          | fr c => exact h.2
          | _ => exact h
        cases x with
        | sh d => cases e1; exact asgPs_ok (is := is) (vs := vs) (xs := xs) (R.setSh hi rv) rr h0 (fun j t ej bj => tail (nb' rfl j t ej bj)) e
        | is d => cases e1; exact asgPs_ok (is := is) (vs := vs) (xs := xs) (R.setSh hi rv) rr h0 (fun j t ej bj => tail (nb' rfl j t ej bj)) e
        | pot => cases e1; exact asgPs_ok (is := is) (vs := vs) (xs := xs) (R.setN hi rfl fun σ es => by rw [show v = .ref F.ap from rv] at es; exact es) rr h0 (fun j t ej bj => tail (nb' rfl j t ej bj)) e
        | fr c =>
          cases e1
          obtain ⟨q, rfl, n, rc, oq⟩ := rv
          have nq : ∀ j t, sl[j]? = some t → isBox t = true → A j ≠ q := fun j t ej bj z => (nb j t ej bj).1 (by rw [z])
          have hq : F.H0 q = none := by
            cases z : F.H0 q with
            | none => rfl
            | some u => exact absurd n (h0 q (by rw [z]; exact fun w => nomatch w))
          obtain ⟨A', R'⟩ := R.setB (s := .own c) hi nq fun A1 σ1 ea es => ⟨by rw [ea]; exact es, by rw [ea]; exact rc, by rw [ea]; exact oq, by rw [ea]; exact hq⟩
          refine asgPs_ok (is := is) (vs := vs) (xs := xs) R' rr h0 (fun j t ej bj => ?_) e
          have old : ∀ j t, (sl.set i (.own c))[j]? = some t → isBox t = true → j ≠ i → NotAt (A j) vs xs := fun j t ej bj z => by
            rw [List.getElem?_set_ne (Ne.symm z)] at ej
            exact (nb j t ej bj).2
          by_cases z : j = i
          · subst z
            have := (R'.slot j _ (List.getElem?_set_self hi)).1
            have hσ : j < σ.length := by rw [← R.len]; exact hi
            rw [List.getElem?_set_self hσ] at this
            have e2 : q = A' j := V.ref.inj (Option.some.inj (Option.some.inj this))
            rw [← e2]
            exact rn c q rfl rfl
          · have e3 : A' j = A j := by
              have hj := (R'.slot j t ej)
              have ej' : sl[j]? = some t := by rw [List.getElem?_set_ne (Ne.symm z)] at ej; exact ej
              have h1 := R.slot j t ej'
              have es : (σ.set i (some (V.ref q)))[j]? = σ[j]? := List.getElem?_set_ne (Ne.symm z)
              cases t with
              | own c2 =>
                have a1 := hj.1
                have a2 := h1.1
                rw [es, a2] at a1
                exact (V.ref.inj (Option.some.inj (Option.some.inj a1))).symm
              | iso c2 =>
                have a1 := hj.1
                have a2 := h1.1
                rw [es, a2] at a1
                exact (V.ref.inj (Option.some.inj (Option.some.inj a1))).symm
              | _ => cases bj
            rw [e3]
            exact old j t ej bj z
        | bo _ => cases e1
        | ow _ _ => cases e1
      · cases e1
    · cases e
  | [], _ :: _, [], _, _, _, _, _, r, _, _, _ => r.elim
  | [], _, _ :: _, _, _, _, _, _, _, _, _, e => by simp only [asgPs] at e; cases e
  | _ :: _, _, [], _, _, _, _, _, _, _, _, e => by simp only [asgPs] at e; cases e
  | _ :: _, [], _ :: _, _, _, _, _, _, r, _, _, _ => r.elim
end
/-- a, b, .. = x, y, .. -/
def parS (is : List Nat) (fs : List Ev) (sl : Sl) (p : Pot) : Option Out := match argsE fs sl p with
  | some (xs, p1) => (match asgPs is xs sl with
    | some sl' => some (.nx sl' p1)
    | none => none)
  | none => none
theorem par_ok {K : Fg} {fs : List Ev} {is : List Nat} {D : Ends} {σ : L2.St} {H : Hp} (h : tS K (parS is fs) D σ H) : tP K fs σ H fun vs H1 => vs.length = is.length ∧ D.nx (setAll σ is vs) H1 ∧ ∀ q o, H1 q = none → D.nx (setAll σ is vs) (upd H1 q o) := by
  obtain ⟨F, O, A, sl, p, out, R, hf, q⟩ := h
  unfold parS at hf
  split at hf
  · rename_i xs p1 e1
    split at hf
    · rename_i sl' e2
      cases hf
      refine ⟨F, O, A, sl, p, xs, p1, R, e1, fun vs H1 O1 R1 T1 s1 x1 r1 => ?_⟩
      have h0 : ∀ b, F.H0 b ≠ none → H b ≠ none := fun b hb => by
        by_cases z : b = F.ap
        · rw [z]; exact R.potNe
        · cases w : F.H0 b with
          | none => exact absurd w hb
          | some u => rw [R.ext b u z w]; exact fun y => nomatch y
      obtain ⟨A', R'⟩ := asgPs_ok (H := H) R1 r1 h0 (fun j t ej bj => VPs.notAt (by
        obtain ⟨_, _, y, hy⟩ := R.box ej bj
        rw [hy]; exact fun z => nomatch z) r1) e2
      have ll : ∀ {is : List Nat} {vs : List V} {xs : List Val} {sl sl' : Sl}, asgPs is xs sl = some sl' → VPs K F O1 H H1 vs xs → vs.length = is.length := fun {is} => by
        induction is with
        | nil => intro vs xs sl sl' e r; cases xs with
          | nil => cases vs with
            | nil => rfl
            | cons _ _ => exact r.elim
          | cons _ _ => simp only [asgPs] at e; cases e
        | cons i is ih => intro vs xs sl sl' e r; cases xs with
          | nil => simp only [asgPs] at e; cases e
          | cons x xs => cases vs with
            | nil => exact r.elim
            | cons v vs =>
              simp only [asgPs] at e
              split at e
              · simp [ih e r.2.2]
              · cases e
      refine ⟨ll e2 r1, q O1 A' _ H1 R' T1, fun q0 o hq => ?_⟩
      have x2 := Ex.new R' (o := o) hq
      exact q O1 A' _ _ (R'.exp x2) (T1.trans (R'.tr x2))
    · cases hf
  · cases hf
section
variable {X : Cx} {a b c : Expr} {fa fb fc : Ev} {fs : List Ev} {x y z : Str} {px py pz pt pos : Pos} {kt : Nat} {k2 : Nat} {pt2 : Pos} {es ts : List Expr}
theorem tP_mono {K : Fg} {fs : List Ev} {σ : L2.St} {H : Hp} {Q Q' : List V → Hp → Prop} (h : tP K fs σ H Q) (m : ∀ vs H, Q vs H → Q' vs H) : tP K fs σ H Q' := by
  obtain ⟨F, O, A, sl, p, xs, p1, R, e1, q⟩ := h
  exact ⟨F, O, A, sl, p, xs, p1, R, e1, fun vs H1 O1 R1 T1 s1 x1 r1 => m _ _ (q vs H1 O1 R1 T1 s1 x1 r1)⟩
theorem cs_par2 (i j : Nat) (hc : X.calm = true) (hN : X.N.Nodup) (ha : CP X [a, b] [fa, fb])
    (hw : swappedStores [.Tuple [.Name x px, .Name y py] kt pt] (.Tuple [a, b] k2 pt2) X.env = pure (some [x, y])) (hi : X.N[i]? = some x := by rfl) (hj : X.N[j]? = some y := by rfl) (hij : i ≠ j := by decide)
    (hx : X.env.scope.names.lookup x = some .local := by rfl) (hy : X.env.scope.names.lookup y = some .local := by rfl)
    (hs : swapsWithSole [.Tuple [.Name x px, .Name y py] kt pt] (.Tuple [a, b] k2 pt2) pos.line X.env = pure false := by rfl) :
    CS X (.Assign [.Tuple [.Name x px, .Name y py] kt pt] (.Tuple [a, b] k2 pt2) pos) (parS [i, j] [fa, fb]) :=
  PSimp (ps_par hc hN hi hj hij hx hy ha hw hs) fun D σ H h => tP_mono (par_ok h) fun vs H1 ⟨hl, q, _⟩ => by
    match vs, hl, q with
    | [v, w], _, q => exact ⟨v, w, rfl, q⟩
theorem cs_par3 (i j l : Nat) (hc : X.calm = true) (hN : X.N.Nodup) (ha : CP X [a, b, c] [fa, fb, fc])
    (hw : swappedStores [.Tuple [.Name x px, .Name y py, .Name z pz] kt pt] (.Tuple [a, b, c] k2 pt2) X.env = pure (some [x, y, z])) (hi : X.N[i]? = some x := by rfl) (hj : X.N[j]? = some y := by rfl) (hl : X.N[l]? = some z := by rfl) (hij : i ≠ j := by decide) (hil : i ≠ l := by decide) (hjl : j ≠ l := by decide)
    (hx : X.env.scope.names.lookup x = some .local := by rfl) (hy : X.env.scope.names.lookup y = some .local := by rfl) (hz : X.env.scope.names.lookup z = some .local := by rfl)
    (hs : swapsWithSole [.Tuple [.Name x px, .Name y py, .Name z pz] kt pt] (.Tuple [a, b, c] k2 pt2) pos.line X.env = pure false := by rfl) :
    CS X (.Assign [.Tuple [.Name x px, .Name y py, .Name z pz] kt pt] (.Tuple [a, b, c] k2 pt2) pos) (parS [i, j, l] [fa, fb, fc]) :=
  PSimp (ps_par3 hc hN hi hj hl hij hil hjl hx hy hz ha hw hs) fun D σ H h => tP_mono (par_ok h) fun vs H1 ⟨hl, q, _⟩ => by
    match vs, hl, q with
    | [u, v, w], _, q => exact ⟨u, v, w, rfl, q⟩
/-- by a tuple that is made and taken apart -/
def gNames : List Nat → TGs
  | [] => gNil
  | i :: is => gCons (gName i) (gNames is)
theorem gNames_ok : ∀ {is : List Nat} {vs : List V} {σ : L2.St} {H : Hp} {Q : L2.St → Hp → Prop}, vs.length = is.length → Q (setAll σ is vs) H → gNames is vs σ H Q
  | [], [], _, _, _, _, q => ⟨rfl, q⟩
  | i :: is, v :: vs, _, _, _, hl, q => ⟨v, vs, rfl, gNames_ok (is := is) (by simpa using hl) q⟩
  | [], _ :: _, _, _, _, hl, _ => by simp at hl
  | _ :: _, [], _, _, _, hl, _ => by simp at hl
theorem cs_parT (is : List Nat) (hc : X.calm = true) (hg : PGs X ts (gNames is)) (ha : CP X es fs) (hz : is.length ≤ sizeLine := by decide)
    (hl : (assignEach ts X.env).length = is.length := by rfl) (hst : (assignEach ts X.env).findIdx? (·.1) = none := by rfl)
    (hs : swapsWithSole [.Tuple ts kt pt] (.Tuple es k2 pt2) pos.line X.env = pure false := by rfl) (hw : swappedStores [.Tuple ts kt pt] (.Tuple es k2 pt2) X.env = pure none := by rfl)
    (h1 : (assignEach [.Tuple ts kt pt] X.env).map (·.2) = [assign (.Tuple ts kt pt) X.env] := by rfl) : CS X (.Assign [.Tuple ts kt pt] (.Tuple es k2 pt2) pos) (parS is fs) :=
  PSimp (ps_asg (pe_tup ha) (pg_tup (n := is.length) hc hg hl hst) hs hw h1) fun D σ H h => tP_mono (par_ok h) fun vs H1 ⟨hl, _, q⟩ => by
    refine ⟨by rw [hl]; exact hz, fun a ha => ⟨a, vs, rfl, SqT.of upd_same, hl, gNames_ok hl (q a _ ha)⟩⟩
end
end Pu
namespace Pu
open PySem PySem.Spec PyProof.Rows L2

/-! ### repr -/
section
variable {X : Cx} {pins : List (Addr × Obj)} {σ : L2.St} {H : Hp} {s : Shared} {O : Pred}
mutual
theorem RD.reads (I : Inv X pins σ H s) : ∀ {d : PyData} {v : V} {u : Value}, RD X.K O H d v → RelV v u → d.hasDict = false → ∃ as, Reads s.heap u d as
  | .none, _, _, r, q, _ => by rw [rdN r] at q; cases q; exact ⟨_, .none⟩
  | .bool b, _, _, r, q, _ => by rw [rdB r] at q; cases q; exact ⟨_, .bool b⟩
  | .int i, _, _, r, q, _ => by rw [rdI r] at q; obtain ⟨t, rfl⟩ := q; exact ⟨_, .int i t⟩
  | .str i, _, _, r, q, _ => by rw [rdS r] at q; obtain ⟨t, rfl⟩ := q; exact ⟨_, .str i t⟩
  | .list ds, _, _, r, q, n => by
    obtain ⟨a, vs, rfl, h1, h2⟩ := rdL r
    cases q
    obtain ⟨its, rv, ⟨o, k, e, c, _, d⟩, _⟩ := I.list h1
    obtain ⟨as, w⟩ := RDs.reads I h2 rv (by simpa only [PyData.hasDict] using n)
    exact ⟨_, .list e c d (by simpa using w)⟩
  | .tuple ds, _, _, r, q, n => by
    simp only [RD] at r
    obtain ⟨a, vs, rfl, h1, h2⟩ := r
    cases q
    have st : SqT X.K H a vs := h1.elim (fun z => SqT.of z.2) .inr
    obtain ⟨its, rv, ⟨o, e, c, k, d⟩, _⟩ := I.tuple st
    obtain ⟨as, w⟩ := RDs.reads I h2 rv (by simpa only [PyData.hasDict] using n)
    exact ⟨_, .tuple e c d (by simpa using w)⟩
  | .dict _, _, _, _, _, n => by simp only [PyData.hasDict] at n; cases n
theorem RDs.reads (I : Inv X pins σ H s) : ∀ {ds : List PyData} {vs : List V} {us : List Value}, RDs X.K O H ds vs → Vals vs us → PyData.hasDictAll ds = false → ∃ as, ReadsAll s.heap us ds as
  | [], _, _, r, q, _ => by simp only [RDs] at r; subst r; cases q; exact ⟨_, .nil⟩
  | d :: ds, _, _, r, q, n => by
    simp only [RDs] at r
    obtain ⟨v, t, rfl, h, h2⟩ := r
    simp only [PyData.hasDictAll, Bool.or_eq_false_iff] at n
    cases q with
    | cons q1 q2 =>
      obtain ⟨as, w1⟩ := RD.reads I h q1 n.1
      obtain ⟨bs, w2⟩ := RDs.reads I h2 q2 n.2
      exact ⟨_, .cons w1 w2⟩
end
end
/-- what repr is of here -/
def reprOk (d : PyData) : Prop := d.hasDict = false ∧ d.showable = true ∧ d.depth ≤ 60 ∧ d.shown.length ≤ sizeLine
instance (d : PyData) : Decidable (reprOk d) := by unfold reprOk; infer_instance
def rRepr (K : Fg) : List V → Hp → VK → Prop := fun xs H Q => ∃ (O : Pred) (d : PyData) (v : V), xs = [v] ∧ RD K O H d v ∧ reprOk d ∧ Q (.str d.shown) H
theorem call_repr {X : Cx} {k : Nat} (hgd : X.A.guards = some []) (hr : Room k X.A) : CallR X (.builtin "repr") (rRepr X.K) := by
  intro pins s σ H xs us Q I rs h
  obtain ⟨O, d, v, rfl, rd, ⟨h1, h2, h3, h4⟩, q⟩ := h
  obtain ⟨u, rfl, r⟩ := vals1 rs
  have hu := hr.un
  cases d with
  | none => rw [rdN rd] at r; cases r; exact P.repr_of_none ⟨.str _, H, I.tok _, ⟨_, rfl⟩, q⟩
  | bool b => rw [rdB rd] at r; cases r; exact P.repr_of_bool ⟨.str _, H, I.tok _, ⟨_, rfl⟩, by cases b <;> exact q⟩
  | int i =>
    rw [rdI rd] at r; obtain ⟨t, rfl⟩ := r
    exact P.repr_of_int (by simpa [PyData.showable] using h2) ⟨.str _, H, I.tok _, ⟨_, rfl⟩, q⟩
  | str x =>
    rw [rdS rd] at r; obtain ⟨t, rfl⟩ := r
    exact P.repr_of_str ⟨.str _, H, I.tok _, ⟨_, rfl⟩, q⟩ h4
  | list ds =>
    obtain ⟨as, w⟩ := rd.reads I r h1
    obtain ⟨a, vs, rfl, _⟩ := rdL rd
    cases r
    exact repr_of_reads' w h2 (fun z => by rw [h1] at z; cases z) hgd (by omega) (fun _ _ e => e) (fun h' t tk kk => ⟨.str _, H, I.kept kk, ⟨_, rfl⟩, q⟩) h4
  | tuple ds =>
    obtain ⟨as, w⟩ := rd.reads I r h1
    simp only [RD] at rd
    obtain ⟨a, vs, rfl, _⟩ := rd
    cases r
    exact repr_of_reads' w h2 (fun z => by rw [h1] at z; cases z) hgd (by omega) (fun _ _ e => e) (fun h' t tk kk => ⟨.str _, H, I.kept kk, ⟨_, rfl⟩, q⟩) h4
  | dict kvs => cases h1
def reprK : List PyData → Option PyData
  | [d] => if reprOk d then some (.str d.shown) else none
  | _ => none
theorem cs_repr {K : Fg} : CallS K (rRepr K) (cF reprK) := cs_flat fun O1 H vs ds z Q r hz q => by
  unfold reprK at hz
  split at hz
  · rename_i d
    split at hz
    · rename_i ok
      cases hz
      obtain ⟨v, rfl, h⟩ := rds1 r
      exact ⟨O1, d, v, rfl, h, ok, q _ toS⟩
    · cases hz
  · cases hz

/-! ### methods of texts -/
def MethS (K : Fg) (r : V → List V → Hp → VK → Prop) (g : Str → List Val → Option Val) : Prop :=
  ∀ (F : Fc) (O : Pred) (A : Nat → Addr) (sl : Sl) (p0 p : Pot) (σ : L2.St) (H0 H : Hp) (a : Str) (vs : List V) (xs : List Val) (z : Val) (Q : VK), Rl K F O A sl p0 σ H0 → Ex F H0 H p → Rl K F O A sl p σ H → VRs K F O A sl H0 H vs xs → g a xs = some z →
    (∀ v H', Ex F H H' p → VR K F O A sl H H' v z → Q v H') → r (.str a) vs H Q
def methE (g : Str → List Val → Option Val) (fo : Ev) (fs : List Ev) (sl : Sl) (p : Pot) : Option (Val × Pot) := match fo sl p with
  | some (x, p1) => (match x.dat with
    | some (.str a, _) => (match argsE fs sl p1 with
      | some (xs, p2) => (match g a xs with
        | some z => some (z, p2)
        | none => none)
      | none => none)
    | _ => none)
  | none => none
section
variable {X : Cx} {o e : Expr} {es : List Expr} {fo : Ev} {fs : List Ev} {name : Str} {id : String} {apos cpos : Pos} {r : V → List V → Hp → VK → Prop} {g : Str → List Val → Option Val}
theorem ce_smeth (slot : PySem.Slot "str" name id) (ty : typeOf (.builtin id) = pure (.type "method_descriptor")) (hm : MtR X id r) (hs : MethS X.K r g) (ho : CE X o fo) (ha : CA X (e :: es) fs)
    (h2 : attributeBase o name X.env (eval o X.env) = eval o X.env := by rfl)
    (h3 : (((backTo cpos (starEach (e :: es) X.env)).all fun x => !x.fst) && (backToKw cpos (keywordEach [] X.env)).all (fun x => x.fst.isSome) && decide ((e :: es).length + ([] : List Keyword).length + (if ([] : List Keyword).isEmpty = true then 0 else 1) < 30)) = true := by rfl)
    (h4 : (apos.endLine == cpos.line) = true := by rfl) (h1 : starEach (e :: es) X.env = (false, eval e X.env) :: starEach es X.env := by rfl) (h5 : ((backTo cpos (starEach es X.env)).any fun x => x.fst) = false := by rfl) :
    CE X (.Call (.Attribute o name apos) (e :: es) [] cpos) (methE g fo fs) := PEimp (pe_bm PySem.F.plainAttrs_str slot ty hm ho ha h2 h3 h4 h1 h5) fun σ H Q h => by
  obtain ⟨F, O, A, sl, p, val, p', R, hf, q⟩ := h
  unfold methE at hf
  split at hf
  · rename_i x p1 e1
    split at hf
    · rename_i a c e2
      split at hf
      · rename_i xs p2 e3
        split at hf
        · rename_i z e4
          cases hf
          refine tE.get R e1 fun v H1 x1 r1 => ?_
          have R1 := R.exp x1
          have ev := rdS (r1.dat R R1 e2)
          subst ev
          refine ⟨rfl, F, O, A, sl, p1, xs, p', R1, e3, fun vs H2 x2 r2 => ?_⟩
          have x12 := x1.trans x2
          exact hs F O A sl p p' σ H H2 a vs xs val Q R x12 (R.exp x12) (r2.back x1) e4 fun w H3 x3 r3 => q w H3 (x12.trans x3) (r3.back x12)
        · cases hf
      · cases hf
    · cases hf
  · cases hf
end
/-- sep.join(texts) -/
def joinM (a : Str) : List Val → Option Val
  | [x] => (match x.items with
    | some (ds, _) => (match strsOf ds with
      | some ys => if (ys.map (·.length)).sum + ys.length * a.length ≤ 16777216 then some (.sh (.str (Txt.join a ys))) else none
      | none => none)
    | none => none)
  | _ => none
def splitM (a : Str) : List Val → Option Val
  | [.sh (.str b)] => if (b.length == 0) = false ∧ a.length + 2 ≤ sizeLine then some (.fr (.list ((Txt.split a b).map .str))) else none
  | _ => none
def find3M (a : Str) : List Val → Option Val
  | [.sh (.str b), .sh (.int i)] => some (.sh (.int (Txt.find3 a b i)))
  | _ => none
def stripM (a : Str) : List Val → Option Val
  | [.sh (.str b)] => if a.length ≤ sizeLine then some (.sh (.str (Txt.stripChars a b))) else none
  | _ => none
section
variable {K : Fg}
theorem shS {F : Fc} {O : Pred} {A : Nat → Addr} {sl : Sl} {H H' : Hp} {v : V} {i : Str} (h : VR K F O A sl H H' v (.sh (.str i))) : v = .str i := rdS (K := K) (O := O) (H := H') h
theorem ms_join : MethS K (fun x xs H Q => ∃ a p, ∃ ys : List Str, x = .str a ∧ xs = [.ref p] ∧ (SqL K H p (ys.map V.str) ∨ SqT K H p (ys.map V.str)) ∧ (ys.map (·.length)).sum + ys.length * a.length ≤ 16777216 ∧ Q (.str (Txt.join a ys)) H) joinM := by
  intro F O A sl p0 p σ H0 H a vs xs z Q R0 X0 R rs hg q
  unfold joinM at hg
  split at hg
  · rename_i x
    split at hg
    · rename_i ds c i1
      split at hg
      · rename_i ys e1
        split at hg
        · rename_i hz
          cases hg
          obtain ⟨v, rfl, r⟩ := rs.one
          obtain ⟨l, us, rfl, t, rd⟩ := r.items R0 R i1
          have ed := of_strsOf e1
          subst ed
          have eu := RDs.of_strs rd
          subst eu
          refine ⟨a, l, ys, rfl, rfl, ?_, hz, q _ H (Ex.refl R) (show RD K O H _ (.str _) from toS O H)⟩
          rcases t with ⟨_, _, h⟩ | ⟨_, _, h⟩
          · exact .inl (SqL.of h)
          · exact .inr h
        · cases hg
      · cases hg
    · cases hg
  · cases hg
theorem ms_split : MethS K (fun x xs H Q => ∃ a b, x = .str a ∧ xs = [.str b] ∧ (b.length == 0) = false ∧ a.length + 2 ≤ sizeLine ∧ rNewStrs (Txt.split a b) H Q) splitM := by
  intro F O A sl p0 p σ H0 H a vs xs z Q R0 X0 R rs hg q
  unfold splitM at hg
  split at hg
  · rename_i b
    split at hg
    · rename_i hc
      cases hg
      obtain ⟨v, rfl, r⟩ := rs.one
      refine ⟨a, b, rfl, by rw [shS r], hc.1, hc.2, fun l hl => q _ _ (Ex.new R hl) ?_⟩
      exact VR.newL (c := true) R hl (RDs.strs _)
    · cases hg
  · cases hg
theorem ms_find3 : MethS K (fun x xs H Q => ∃ (a b : Str) (i : Int), x = .str a ∧ xs = [.str b, .int i] ∧ Q (.int (Txt.find3 a b i)) H) find3M := by
  intro F O A sl p0 p σ H0 H a vs xs z Q R0 X0 R rs hg q
  unfold find3M at hg
  split at hg
  · rename_i b i
    cases hg
    obtain ⟨v, u, rfl, r, r'⟩ := rs.two
    exact ⟨a, b, i, rfl, by rw [shS r, shI r'], q _ H (Ex.refl R) (show RD K O H _ (.int _) from toI O H)⟩
  · cases hg
theorem ms_strip : MethS K (fun x xs H Q => ∃ a b, x = .str a ∧ xs = [.str b] ∧ a.length ≤ sizeLine ∧ Q (.str (Txt.stripChars a b)) H) stripM := by
  intro F O A sl p0 p σ H0 H a vs xs z Q R0 X0 R rs hg q
  unfold stripM at hg
  split at hg
  · rename_i b
    split at hg
    · rename_i hc
      cases hg
      obtain ⟨v, rfl, r⟩ := rs.one
      exact ⟨a, b, rfl, by rw [shS r], hc, q _ H (Ex.refl R) (show RD K O H _ (.str _) from toS O H)⟩
    · cases hg
  · cases hg
end
section
variable {X : Cx} {o e : Expr} {es : List Expr} {fo f : Ev} {fs : List Ev}

/-! ### calls by keywords -/
abbrev CK (X : Cx) (kws : List Keyword) (fs : List Ev) : Prop := PK X kws (tA X.K fs)
theorem PKimp {kws : List Keyword} {t t' : TA} (h : PK X kws t) (i : ∀ σ H Q, t' σ H Q → t σ H Q) : PK X kws t' := ⟨fun pos pins s σ H Q I w => h.run pos pins s σ H Q I (i σ H Q w)⟩
theorem ck_nil : CK X [] [] := PKimp pk_nil fun σ H Q h => by
  obtain ⟨F, O, A, sl, p, vals, p', R, hf, q⟩ := h
  cases hf
  exact q [] H (Ex.refl R) True.intro
theorem ck_cons {nm : Option Str} {kpos : Pos} {kws : List Keyword} (ha : CE X e f) (hr : CK X kws fs) : CK X (⟨nm, e, kpos⟩ :: kws) (f :: fs) := PKimp (pk_cons ha hr) fun σ H Q h => by
  obtain ⟨F, O, A, sl, p, vals, p', R, hf, q⟩ := h
  unfold argsE at hf
  split at hf
  · rename_i x p1 e1
    split at hf
    · rename_i xs p2 e2
      cases hf
      refine tE.get R e1 fun v H1 x1 r1 => ?_
      exact ⟨F, O, A, sl, p1, xs, p', R.exp x1, e2, fun vs H2 x2 r2 => q (v :: vs) H2 (x1.trans x2) ⟨r1.exp R x2, r2.back x1⟩⟩
    · cases hf
  · cases hf
/-- the items at these places -/
def perm {α : Type} (is : List Nat) (xs : List α) : List α := is.filterMap (xs[·]?)
theorem VRs.get {K : Fg} {F : Fc} {O : Pred} {A : Nat → Addr} {sl : Sl} {H H' : Hp} : ∀ {vs : List V} {xs : List Val} {i : Nat}, VRs K F O A sl H H' vs xs → (∃ v x, vs[i]? = some v ∧ xs[i]? = some x ∧ VR K F O A sl H H' v x) ∨ (vs[i]? = none ∧ xs[i]? = none)
  | [], [], _, _ => .inr ⟨by simp, by simp⟩
  | v :: vs, x :: xs, 0, h => .inl ⟨v, x, rfl, rfl, h.1⟩
  | v :: vs, x :: xs, i + 1, h => by simpa using VRs.get (i := i) h.2
  | [], _ :: _, _, h => h.elim
  | _ :: _, [], _, h => h.elim
theorem VRs.perm {K : Fg} {F : Fc} {O : Pred} {A : Nat → Addr} {sl : Sl} {H H' : Hp} {vs : List V} {xs : List Val} (h : VRs K F O A sl H H' vs xs) : ∀ is : List Nat, VRs K F O A sl H H' (Pu.perm is vs) (Pu.perm is xs)
  | [] => True.intro
  | i :: is => by
    have ih := VRs.perm h is
    rcases h.get (i := i) with ⟨v, x, e1, e2, r⟩ | ⟨e1, e2⟩
    · simp only [Pu.perm, List.filterMap_cons, e1, e2]
      exact ⟨r, ih⟩
    · simp only [Pu.perm, List.filterMap_cons, e1, e2]
      exact ih
theorem Vals.perm {vs : List V} {us : List Value} (h : Vals vs us) : ∀ is : List Nat, Vals (Pu.perm is vs) (Pu.perm is us)
  | [] => .nil
  | i :: is => by
    have ih := Vals.perm h is
    cases e : vs[i]? with
    | none =>
      have e2 := Vals.none_of h e
      simp only [Pu.perm, List.filterMap_cons, e, e2]
      exact ih
    | some v =>
      obtain ⟨u, e2, r⟩ := Vals.get h e
      simp only [Pu.perm, List.filterMap_cons, e, e2]
      exact .cons r ih
def callKF (G : Fn) (is : List Nat) (fs : List Ev) (sl : Sl) (p : Pot) : Option (Val × Pot) := match argsE fs sl p with
  | some (xs, p1) => (match argsOf (perm is xs) with
    | some (as, c) => (match G as p1 with
      | some (val, p2) => some (resV c as val, p2)
      | none => none)
    | none => none)
  | none => none
/-- how keywords bind: is, the places of the keywords in the parameters' order -/
def KwBinds (K : Fg) (fd : FuncData) (ps ks : List Str) (is : List Nat) : Prop :=
  ∀ (s : Shared) (ws : List Value), K.In s.heap → ws.length = ks.length → BindsTo s fd ⟨[], ks.zip ws⟩ (ps.zip (perm is ws))
theorem ce_callKw {k : Nat} {f : Addr} {fd : FuncData} {ps : List Str} {G : Fn} {x : Str} {pos pn : Pos} {kws : List Keyword} (ks : List Str) (is : List Nat) (F : FnG X.prog X.w X.K X.mg X.base k f fd ps G) (hgd : X.A.guards = some []) (hr : Room k X.A) (hm : X.mg x = some (.ref f)) (hk : PySem.W.keepIn X.K (.ref f) = true) (hb : KwBinds X.K fd ps ks is)
    (ha : CK X kws fs) (hlen : ks.length = fs.length := by rfl) (hperm : ∀ xs : List Val, xs.length = fs.length → (perm is xs).length = ps.length) (hg : Gl X x := by rfl) (hdb : (x == ("__debug__" : Str)) = false := by decide)
    (hall : (backToKw pos (keywordEach kws X.env)).all (·.1.isSome) = true := by rfl) (hks : (backToKw pos (keywordEach kws X.env)).filterMap (·.1) = ks := by rfl)
    (hpl : ((backTo pos (starEach [] X.env)).any (·.1) || (backToKw pos (keywordEach kws X.env)).any (·.1.isNone)) = false := by rfl) : CE X (.Call (.Name x pn) [] kws pos) (callKF G is fs) := by
  refine ⟨fun pins s σ H Q I h => ?_⟩
  obtain ⟨Fc, O, A, sl, p, val, p', R, hf, q⟩ := h
  unfold callKF at hf
  split at hf
  · rename_i xs p1 e1
    split at hf
    · rename_i as c e2
      split at hf
      · rename_i v0 p2 e3
        cases hf
        refine wpAny_Call_Name_kw (ld_glob I hg hm ?_ hdb)
        have lx := argsE_len e1
        have pa := ha.run pos pins s σ H (fun vs H1 => vs.length = ks.length ∧ spF X.K ps.length G (perm is vs) H1 Q) I ⟨Fc, O, A, sl, p, xs, p1, R, e1, fun vs H1 x1 r1 => ⟨?_, ?_⟩⟩
        · refine PySem.W.callWith_KW0 (first := []) (h₀ := X.base) I.ok.mod.kin hk hall (thn pa fun ws s1 ⟨vs, H1, I1, r, hl, w⟩ => ⟨I1.kIn, ?_⟩) hpl
          rw [hks]
          have bt := hb s1 ws I1.kIn (by rw [← r.length]; exact hl)
          refine wpAny_call (codeAny_mono (F.run X.A X.stack s1 H1 ⟨[], ks.zip ws⟩ (perm is ws) (perm is vs) Q hgd hr I1.env0 bt (Vals.perm r is) w) fun res s' hq => ?_)
          cases res with
          | error _ => exact hq.elim
          | ok fl => cases fl with
            | ret u => exact I1.after hq
            | _ => exact hq.elim
        · have : ∀ {vs : List V} {xs : List Val}, VRs X.K Fc O A sl H H1 vs xs → vs.length = xs.length := fun {vs} => by
            induction vs with
            | nil => intro xs h; cases xs with
              | nil => rfl
              | cons _ _ => exact h.elim
            | cons v vs ih => intro xs h; cases xs with
              | nil => exact h.elim
              | cons x xs => simp [ih h.2]
          rw [this r1, lx, hlen]
        · refine call_ok R x1 (r1.perm is) e2 e3 ?_ q
          rw [argsOf_len e2, hperm xs lx]
      · cases hf
    · cases hf
  · cases hf
end
end Pu
namespace Pu
open PySem PySem.Spec PyProof.Rows L2

/-! ### the pot's two numbers -/
/-- pot[0], pot[1] -/
def potE (i : Nat) (k : Bool) (sl : Sl) (p : Pot) : Option (Val × Pot) := match sl[i]? with
  | some .pot => some (.sh (.int (if k = true then p.2 else p.1)), p)
  | _ => none
section
variable {X : Cx} {x : Str} {np cp pos : Pos} {j : Nat} {e : Expr} {f : Ev}
theorem ce_pot0 (i : Nat) (hN : X.N[i]? = some x := by rfl) (hv : Vis X.env.scope x := by first | exact Or.inl rfl | exact Or.inr (Or.inl rfl) | exact Or.inr (Or.inr rfl)) (hd : (x == ("__debug__" : Str)) = false := by decide) (hcd : (x == ("__classdict__" : Str)) = false := by decide)
    (hs : PlainIx (.Constant (.int 0) j cp) := by exact fun _ _ => rfl) : CE X (.Subscript (.Name x np) (.Constant (.int 0) j cp) pos) (potE i false) := PEimp (pe_ix ix_list (pe_var hN hv hd hcd) pe_int hs) fun σ H Q h => by
  obtain ⟨F, O, A, sl, p, val, p', R, hf, q⟩ := h
  unfold potE at hf
  split at hf
  · rename_i ei
    cases hf
    exact ⟨_, R.slot i _ ei, F.ap, _, 0, .int p.1, rfl, rfl, SqL.of R.pot, atI_nat (j := 0) rfl, q _ H (Ex.refl R) (show RD X.K O H (.int _) _ from toI O H)⟩
  · cases hf
theorem ce_pot1 (i : Nat) (hN : X.N[i]? = some x := by rfl) (hv : Vis X.env.scope x := by first | exact Or.inl rfl | exact Or.inr (Or.inl rfl) | exact Or.inr (Or.inr rfl)) (hd : (x == ("__debug__" : Str)) = false := by decide) (hcd : (x == ("__classdict__" : Str)) = false := by decide)
    (hs : PlainIx (.Constant (.int 1) j cp) := by exact fun _ _ => rfl) : CE X (.Subscript (.Name x np) (.Constant (.int 1) j cp) pos) (potE i true) := PEimp (pe_ix ix_list (pe_var hN hv hd hcd) pe_int hs) fun σ H Q h => by
  obtain ⟨F, O, A, sl, p, val, p', R, hf, q⟩ := h
  unfold potE at hf
  split at hf
  · rename_i ei
    cases hf
    exact ⟨_, R.slot i _ ei, F.ap, _, 1, .int p.2, rfl, rfl, SqL.of R.pot, atI_nat (j := 1) rfl, q _ H (Ex.refl R) (show RD X.K O H (.int _) _ from toI O H)⟩
  · cases hf
section
variable {K : Fg} {F : Fc} {O : Pred} {A : Nat → Addr} {sl : Sl} {p p' : Pot} {σ : L2.St} {H : Hp}
theorem Ex.pots (R : Rl K F O A sl p σ H) (p' : Pot) : Ex F H (upd H F.ap (.lst [.int p'.1, .int p'.2])) p' := ⟨fun b x n e => by rw [upd_ne n]; exact e, upd_same⟩
end
/-- pot[1] = e -/
def potS (i : Nat) (f : Ev) (sl : Sl) (p : Pot) : Option Out := match f sl p, sl[i]? with
  | some (.sh (.int n), p1), some .pot => some (.nx sl (p1.1, n))
  | _, _ => none
theorem cs_pot1 (i : Nat) {tp : Pos} (he : CE X e f) (hN : X.N[i]? = some x := by rfl) (hv : Vis X.env.scope x := by first | exact Or.inl rfl | exact Or.inr (Or.inl rfl) | exact Or.inr (Or.inr rfl)) (hd : (x == ("__debug__" : Str)) = false := by decide) (hcd : (x == ("__classdict__" : Str)) = false := by decide)
    (hs : swapsWithSole [.Subscript (.Name x np) (.Constant (.int 1) j cp) tp] e pos.line X.env = pure false := by rfl) (hw : swappedStores [.Subscript (.Name x np) (.Constant (.int 1) j cp) tp] e X.env = pure none := by rfl)
    (h1 : (assignEach [.Subscript (.Name x np) (.Constant (.int 1) j cp) tp] X.env).map (·.2) = [assign (.Subscript (.Name x np) (.Constant (.int 1) j cp) tp) X.env] := by rfl) :
    CS X (.Assign [.Subscript (.Name x np) (.Constant (.int 1) j cp) tp] e pos) (potS i f) := PSimp (ps_asg he (pg_sub (pe_var hN hv hd hcd) pe_int set_list) hs hw h1) fun D σ H h => by
  obtain ⟨F, O, A, sl, p, out, R, hf, q⟩ := h
  unfold potS at hf
  split at hf
  · rename_i n p1 e1 ei
    cases hf
    refine tE.get R e1 fun v H1 x1 r1 => ?_
    have R1 := R.exp x1
    have ev := shI r1
    subst ev
    have x2 := Ex.pots R1 (p1.1, n)
    exact ⟨_, R.slot i _ ei, F.ap, _, 1, 1, rfl, rfl, R1.pot, rfl, q O A σ _ (R1.exp x2) ((R.tr x1).trans (R1.tr x2))⟩
  · cases hf
/-- pot[0], digit = divmod(pot[0], many) -/
def potDivS (i jd : Nat) (f : Ev) (sl : Sl) (p : Pot) : Option Out := match f sl p, sl[i]? with
  | some (.sh (.int m), p1), some .pot => if 0 < m ∧ m < 1073741824 ∧ jd < sl.length then some (.nx (sl.set jd (.sh (.int (p.1 % m)))) (p.1 / m, p1.2)) else none
  | _, _ => none
theorem cs_potDiv {y : Str} {yp tp tp2 mp cpos e' : Pos} {np' cp' : Pos} {j' kk : Nat} {b : Expr} (i jd : Nat) (hc : X.calm = true) (hND : X.N.Nodup) (hb : CE X b f) (hm : X.mg "divmod" = none) (hg : Gl X "divmod" := by rfl)
    (hN : X.N[i]? = some x := by rfl) (hv : Vis X.env.scope x := by first | exact Or.inl rfl | exact Or.inr (Or.inl rfl) | exact Or.inr (Or.inr rfl)) (hd : (x == ("__debug__" : Str)) = false := by decide) (hcd : (x == ("__classdict__" : Str)) = false := by decide)
    (hy : X.N[jd]? = some y := by rfl) (hyl : Loc X.env.scope y := by first | exact Or.inl rfl | exact Or.inr rfl) (hyf : X.fn y = true ∨ X.env.scope.names.lookup y = some .local := by first | exact .inl rfl | exact .inr rfl) (hpx : PlainIx (.Constant (.int 0) j' cp') := by exact fun _ _ => rfl)
    (he1 : starEach [.Subscript (.Name x np') (.Constant (.int 0) j' cp') tp2, b] X.env = (false, eval (.Subscript (.Name x np') (.Constant (.int 0) j' cp') tp2) X.env) :: starEach [b] X.env := by rfl) (he2 : starEach [b] X.env = (false, eval b X.env) :: starEach [] X.env := by rfl)
    (hpl : (backTo cpos (starEach [b] X.env)).any (·.1) = false := by rfl)
    (ha : ∀ v, assign (.Subscript (.Name x np) (.Constant (.int 0) j cp) tp) X.env v = (do
      let ov ← holding [v] (eval (.Name x np) X.env)
      let iv ← holding [v, ov] (eval (.Constant (.int 0) j cp) X.env)
      standAt tp
      holding [v, ov, iv] (setItem ov iv v)
      release [v, ov, iv] []) := by intro _; rfl)
    (hx1 : (assignEach [.Subscript (.Name x np) (.Constant (.int 0) j cp) tp, .Name y yp] X.env).map (·.2) = assign (.Subscript (.Name x np) (.Constant (.int 0) j cp) tp) X.env :: (assignEach [.Name y yp] X.env).map (·.2) := by rfl)
    (hx2 : (assignEach [.Name y yp] X.env).map (·.2) = assign (.Name y yp) X.env :: (assignEach [] X.env).map (·.2) := by rfl)
    (hl : (assignEach [.Subscript (.Name x np) (.Constant (.int 0) j cp) tp, .Name y yp] X.env).length = 2 := by rfl) (hst : (assignEach [.Subscript (.Name x np) (.Constant (.int 0) j cp) tp, .Name y yp] X.env).findIdx? (·.1) = none := by rfl)
    (hs : swapsWithSole [.Tuple [.Subscript (.Name x np) (.Constant (.int 0) j cp) tp, .Name y yp] kk mp] (.Call (.Name "divmod" e') [.Subscript (.Name x np') (.Constant (.int 0) j' cp') tp2, b] [] cpos) pos.line X.env = pure false := by rfl)
    (hw : swappedStores [.Tuple [.Subscript (.Name x np) (.Constant (.int 0) j cp) tp, .Name y yp] kk mp] (.Call (.Name "divmod" e') [.Subscript (.Name x np') (.Constant (.int 0) j' cp') tp2, b] [] cpos) X.env = pure none := by rfl)
    (h1 : (assignEach [.Tuple [.Subscript (.Name x np) (.Constant (.int 0) j cp) tp, .Name y yp] kk mp] X.env).map (·.2) = [assign (.Tuple [.Subscript (.Name x np) (.Constant (.int 0) j cp) tp, .Name y yp] kk mp) X.env] := by rfl) :
    CS X (.Assign [.Tuple [.Subscript (.Name x np) (.Constant (.int 0) j cp) tp, .Name y yp] kk mp] (.Call (.Name "divmod" e') [.Subscript (.Name x np') (.Constant (.int 0) j' cp') tp2, b] [] cpos) pos) (potDivS i jd f) :=
  PSimp (ps_asg (pe_callB call_divmod hg hm (by decide +kernel) (ca_cons (ce_pot0 i hN hv hd hcd hpx) (ca_cons hb ca_nil he2) he1) (by decide) (by decide) he1 hpl)
    (pg_tup (n := 2) hc (pgs_cons (pg_sub (pe_var hN hv hd hcd) pe_int set_list ha) (pgs_cons (pg_name hND hy hyl hyf) pgs_nil hx2) hx1) hl hst) hs hw h1) fun D σ H h => by
    obtain ⟨F, O, A, sl, p, out, R, hf, q⟩ := h
    unfold potDivS at hf
    split at hf
    · rename_i m p1 e1 ei
      split at hf
      · rename_i c
        cases hf
        have e0 : potE i false sl p = some (.sh (.int p.1), p) := by unfold potE; rw [ei]; rfl
        refine ⟨F, O, A, sl, p, _, _, R, args2 e0 e1, fun vs H1 x1 r1 => ?_⟩
        obtain ⟨v, u, rfl, r, r'⟩ := r1.two
        have R1 := R.exp x1
        refine ⟨p.1, m, by rw [shI r, shI r'], ⟨c.1, c.2.1⟩, fun t ht => ?_⟩
        have x2 := Ex.new R1 (o := .tup [.int (p.1 / m), .int (p.1 % m)]) ht
        have R2 := R1.exp x2
        have x3 := Ex.pots R2 (p.1 / m, p1.2)
        have R3 := R2.exp x3
        refine ⟨t, _, rfl, SqT.of upd_same, rfl, _, _, rfl, ⟨_, R.slot i _ ei, F.ap, _, 0, 0, rfl, rfl, R2.pot, rfl, ?_⟩⟩
        refine ⟨_, _, rfl, rfl, ?_⟩
        exact q O A _ _ (R3.setSh c.2.2 (show RD X.K O _ (.int (p.1 % m)) _ from toI O _)) (((R.tr x1).trans (R1.tr x2)).trans (R2.tr x3))
      · cases hf
    · cases hf
end
end Pu
namespace Pu
open PySem PySem.Spec PyProof.Rows L2

/-! ### defs by any promise, where no repr is under way -/
abbrev SpS := List V → Hp → VK → Prop
structure FnS (P : Program) (w : World) (K : Fg) (mg : Str → Option Value) (base : Heap) (k : Nat) (f : Addr) (fd : FuncData) (ps : List Str) (sp : SpS) : Prop where
  len : ∀ vs H Q, sp vs H Q → vs.length = ps.length
  run : ∀ (A : Around) (outer : List Env) (s : Shared) (H : Hp) (args : Args) (us : List Value) (vs : List V) (Q : VK), A.guards = some [] → Room k A → Env0 P w K mg base A outer s H → BindsTo s fd args (ps.zip us) → Vals vs us → sp vs H Q →
    codeAny (model P w) A (.call (.ref f) args) (CR CX0 outer P w H s Q E0) s
theorem FnG.toS {P : Program} {w : World} {K : Fg} {mg : Str → Option Value} {base : Heap} {k : Nat} {f : Addr} {fd : FuncData} {ps : List Str} {G : Fn} (F : FnG P w K mg base k f fd ps G) : FnS P w K mg base k f fd ps (spF K ps.length G) :=
  ⟨fun _ _ _ h => h.1, F.run⟩
section
variable {P : Program} {w : World} {K : Fg} {mg : Str → Option Value} {base : Heap}
theorem FnS.of {x qual : Str} {st : Stmt} {f : Addr} {fd : FuncData} {N ps : List Str} {k : Nat} {sp : SpS} (F : Fun K x qual st f fd) (S : FnScope N ps (defScope st)) (len : ∀ vs H Q, sp vs H Q → vs.length = ps.length)
    (hbody : ∀ (cdv : Value) (A : Around) (outer : List Env) (s : Shared) (H : Hp) (vs : List V) (Q : VK), (bodyX P w K mg base N qual st f cdv A outer s H E0).A.guards = some [] → Room k (bodyX P w K mg base N qual st f cdv A outer s H E0).A → sp vs H Q →
      ∃ t, PSs (bodyX P w K mg base N qual st f cdv A outer s H E0) (defBody st) t ∧ t { nx := fun _ H' => Q .non H', rt := Q } (start N vs) H) : FnS P w K mg base (k + 1) f fd ps sp := by
  obtain ⟨oc, od, kV, doc, pm, an, cdv, ct, osl, rfl, lk, hcd⟩ := F.ex
  refine ⟨len, fun A outer s H args us vs Q hgd hr e0 hb r hsp => ?_⟩
  have hl := len _ _ _ hsp
  have KX : K.In s.heap := e0.mod.kin.keeps fun b o e => (e0.bs b o e).1
  have lim : s.heap.NoLimit := e0.mod.nolimit.keeps fun b o e => (e0.bs b o e).1
  have kinds : ∀ y ∈ ps.zip us, (defScope st).names.lookup y.1 = some .local ∨ ((defScope st).names.lookup y.1 = some .cell ∧ ((cellsFrom (s.heap.objs.size + 1) (defScope st).names []).lookup y.1).isSome = true) := by
    rintro ⟨n, v⟩ hy
    have q := S.par n (List.of_mem_zip hy).1
    exact q.elim .inl fun z => .inr ⟨z, PySem.W.cellsFrom_some _ _ _ (.inl z)⟩
  refine codeAny_call_function hr.depth (KX _ _ lk) rfl S.co S.gen rfl (PySem.W.codeRec_of KX hcd) (hb _ _ _ _ ?_)
  refine wpAny_newFunctionEnv_cells S.kind kinds fun env he s1 x1 => ?_
  subst he
  refine ⟨lim.keeps x1.toInCall.keep, codeAny_func ?_⟩
  have hr' : Room k (A.deeper (envOfC qual (defScope st) s.heap.objs.size f cdv)) := hr.deeper _
  obtain ⟨t, body, rd⟩ := hbody cdv A outer s H vs Q hgd hr' hsp
  have I := inv_start (CX := CX0) (E := E0) S hr.hd e0 hl r x1
  have walked := body.nox.run [] s1 (start N vs) H { nx := fun _ H' => Q .non H', rt := Q } I rd
  refine wpAny_mono walked (fun fl s' hs => ?_) fun e s' hs => hs
  have fin : ∀ {σ' : L2.St} {H' : Hp} {v : V} {u : Value}, Inv (cxOf CX0 P w K mg base N qual (defScope st) f cdv A outer s H E0) [] σ' H' s' → RelV v u → Q v H' → L2.CE outer P w H s Q u s' :=
    fun {σ' H' v u} J rv q => ⟨v, H', J.os, J.bare, J.base, J.hok, rv, q⟩
  cases fl with
  | next => obtain ⟨σ', H', J, q⟩ := hs; exact fin (v := V.non) (u := Value.none) J rfl q
  | ret u => obtain ⟨v, σ', H', J, rv, q⟩ := hs; exact fin J rv q
  | brk => obtain ⟨_, _, _, q⟩ := hs; exact q.elim
  | cont => obtain ⟨_, _, _, q⟩ := hs; exact q.elim
end
section
variable {X : Cx} {k : Nat} {f : Addr} {fd : FuncData} {ps : List Str} {sp : SpS} {x : Str} {e : Expr} {es : List Expr} {ta : TA} {pos pn : Pos}
/-- f(e, ..) -/
theorem pe_callS (F : FnS X.prog X.w X.K X.mg X.base k f fd ps sp) (hgd : X.A.guards = some []) (hr : Room k X.A) (hm : X.mg x = some (.ref f)) (hk : PySem.W.keepIn X.K (.ref f) = true) (hb : Binds X.K fd ps []) (ha : PA X (e :: es) ta)
    (hg : Gl X x := by rfl) (hdb : (x == ("__debug__" : Str)) = false := by decide) (he : starEach (e :: es) X.env = (false, eval e X.env) :: starEach es X.env := by rfl) (hpl : (backTo pos (starEach es X.env)).any (·.1) = false := by rfl) :
    PE X (.Call (.Name x pn) (e :: es) [] pos) (fun σ H Q => ta σ H fun vs H1 => sp vs H1 Q) := by
  refine ⟨fun pins s σ H Q I h => wpAny_Call_Name_kw (ld_glob I hg hm ?_ hdb)⟩
  refine PySem.W.callWith_K (h₀ := X.base) I.ok.mod.kin hk (thn (ha.run pos pins s σ H _ I h) fun us s1 ⟨vs, H1, I1, r, w⟩ => ⟨I1.kIn, ?_⟩) he hpl
  have hl : us.length = ps.length := r.length.symm.trans (F.len _ _ _ w)
  have bt := hb s1 us I1.kIn (by rw [List.append_nil]; exact hl)
  rw [List.append_nil] at bt
  refine wpAny_call (codeAny_mono (F.run X.A X.stack s1 H1 ⟨us, []⟩ us vs Q hgd hr I1.env0 bt r w) fun res s' hq => ?_)
  cases res with
  | error _ => exact hq.elim
  | ok fl => cases fl with
    | ret u => exact I1.after hq
    | _ => exact hq.elim
end

theorem u65 {k : Nat} {A : Around} (hr : Room k A) : A.units + 65 < cLine := by have := hr.un; omega
/-! ### the law's own row -/
/-- the law's def, called at the heap behind the top -/
theorem law_run {P : Program} {w : World} {K : Fg} {mg mb : Str → Option Value} {k : Nat} {fa a : Addr} {fd : FuncData} {x : Str} {sp : SpS} {s1 : Shared} {vs : List Value} {ns : List Int}
    (KX : K.In s1.heap) (hns : s1.heap.Ns mainGlobals mg) (hb : s1.heap.Ns builtinsNs mb) (hbb : ∀ x : Str, x ≠ "__name__" → mb x = bootBuiltins x) (hlim : s1.heap.NoLimit) (hg : s1.gens = #[])
    (ha : s1.heap.get? a = some { cls := .type "list", data := .seq vs.toArray }) (hi : IntsAre vs ns) (hl : ns.length ≤ sizeLine) (hr : Room k callerA)
    (F : ∀ base : Heap, K.In base → base.Ns mainGlobals mg → FnS P w K mg base k fa fd [x] sp) (hbind : ∀ (s : Shared) (u : Value), BindsTo s fd ⟨[u], []⟩ [(x, u)])
    (hsp : ∀ H : Hp, Only H → SqL K H a (ns.map V.int) → sp [.ref a] H fun v _ => v = .bl true) :
    codeAny (model P w) callerA (.call (.ref fa) ⟨[.ref a], []⟩) (fun r s' => r = .ok (.ret (.bool true)) ∧ OldK s1.heap s'.heap ∧ s'.os = s1.os ∧ AllBare s'.gens) s1 := by
  have rv := vals_ints hi
  have lenV := hi.length
  -- whatever is tracked, if it is the script alone
  have main : ∀ H : Hp, Only H → SqL K H a (ns.map V.int) → HOk P w H s1.heap → (∀ b, H b ≠ none → b = a) → (H a ≠ none → K.lookup a = none) →
      codeAny (model P w) callerA (.call (.ref fa) ⟨[.ref a], []⟩) (fun r s' => r = .ok (.ret (.bool true)) ∧ OldK s1.heap s'.heap ∧ s'.os = s1.os ∧ AllBare s'.gens) s1 := by
    intro H hO hS hok hA hK
    have dictFree : ∀ {b : Addr} {o : Obj} {es : Array DictEntry} {ep : Nat}, s1.heap.get? b = some o → o.data = .dict es ep → H b = none := fun {b o es ep} e d => by
      cases q : H b with
      | none => rfl
      | some u =>
        have eb : b = a := hA b (by rw [q]; exact fun z => nomatch z)
        rw [eb, ha] at e
        cases e
        exact nomatch (show Data.seq vs.toArray _ = Data.dict es ep from d)
    have nsOf : ∀ {b : Addr} {m : Str → Option Value}, s1.heap.Ns b m → (hidT s1.heap H).Ns b m := fun {b m} ⟨o, es, ep, e, d, r⟩ => ⟨o, es, ep, hidT_get e (dictFree e d), d, r⟩
    have kIn : K.In (hidT s1.heap H) := fun b o e => hidT_get (KX b o e) (by
      cases q : H b with
      | none => rfl
      | some u =>
        have eb : b = a := hA b (by rw [q]; exact fun z => nomatch z)
        have ka := hK (by rw [← eb, q]; exact fun z => nomatch z)
        rw [eb, ka] at e
        cases e)
    have mod : Mod K mg (hidT s1.heap H) := ⟨kIn, nsOf hns, ⟨mb, nsOf hb, hbb⟩, let ⟨mc, h1, h2⟩ := hlim; ⟨mc, nsOf h1, h2⟩⟩
    have env : Env0 P w K mg (hidT s1.heap H) callerA [] s1 H := ⟨rfl, mod, fun b o e => of_hidT e, Nat.le_of_eq (hidT_size _ _), trivial, fun b z => (List.not_mem_nil (show b ∈ ([] : List Addr) from z)).elim, hok, AllBare.of_eq hg⟩
    refine codeAny_mono ((F _ kIn (nsOf hns)).run callerA [] s1 H ⟨[.ref a], []⟩ [.ref a] [.ref a] _ rfl hr env (hbind s1 (.ref a)) (.cons rfl .nil) (hsp H hO hS)) fun r s' h => ?_
    cases r with
    | error e => exact h.elim
    | ok fl =>
      cases fl with
      | ret u =>
        obtain ⟨v, H', os, bare, un, hok', r', q⟩ := h
        have ev : v = .bl true := q
        subst ev
        have eu : u = Value.bool true := r'
        subst eu
        refine ⟨rfl, OldK.of_keep fun b o e => ?_, os, bare⟩
        cases q2 : H b with
        | none => exact un.keep b o e q2 (fun z => List.not_mem_nil (show b ∈ ([] : List Addr) from z)) (fun z => List.not_mem_nil (show b ∈ ([] : List Addr) from z))
        | some u2 =>
          rcases hO b with z | ⟨ob, xs, z⟩
          · rw [q2] at z; cases z
          · have e1 := (hok b _ z).1
            have e2 := (hok' b _ (un.frzs b ob _ z)).1
            rw [e] at e1
            cases e1
            exact e2
      | _ => exact h.elim
  cases hk : K.lookup a with
  | some o =>
    have e := KX a o hk
    rw [ha] at e
    cases e
    exact main (fun _ => none) (fun _ => .inl rfl) (.inr ⟨_, vs.toArray, _, hk, rfl, rfl, rfl, by rw [List.size_toArray, lenV]; exact hl, by simpa using rv⟩) (fun b u z => nomatch z) (fun b z => absurd rfl z) fun z => absurd rfl z
  | none =>
    let Hs : Hp := fun b => if b = a then some (.frz { cls := .type "list", data := .seq vs.toArray } (.lst (ns.map V.int))) else none
    have atA : Hs a = some (.frz { cls := .type "list", data := .seq vs.toArray } (.lst (ns.map V.int))) := if_pos rfl
    have off : ∀ b, b ≠ a → Hs b = none := fun b z => if_neg z
    refine main Hs (fun b => ?_) (.inl (.inr ⟨_, atA⟩)) (fun b u z => ?_) (fun b z => ?_) fun _ => hk
    · by_cases hb : b = a
      · exact .inr ⟨_, _, by rw [hb]; exact atA⟩
      · exact .inl (off b hb)
    · by_cases hb : b = a
      · subst hb
        rw [atA] at z
        cases z
        exact ⟨ha, by rw [List.length_map]; exact hl, vs, _, rv, ha⟩
      · rw [off b hb] at z; cases z
    · by_cases hb : b = a
      · exact hb
      · exact absurd (off b hb) z
/-- the goal that the head leaves, from the law's promise -/
theorem walk_law {l : PySem.W.OpenLaw} {n k : Nat} {q : Program} {loose : List Str} {XP : (Str → Option Value) → Heap → Prop} {YP : World → Heap → Prop} {d : DefRec} {K : Params → Fg} {sp : World → SpS} {x : Str}
    (hn : l.most = some n) (hn2 : n ≤ sizeLine) (hdf : d.params.defaults = []) (hr : Room k callerA)
    (hY : ∀ (w : World) (h : Heap), YP w h → (K w.params).In h)
    (F : ∀ (w : World) (mg : Str → Option Value) (fa : Addr) (h : Heap), (K w.params).In h → h.Ns mainGlobals mg → mg d.name = some (.ref fa) →
      ∃ fd : FuncData, (∀ (s : Shared) (u : Value), BindsTo s fd ⟨[u], []⟩ [(x, u)]) ∧
        ∀ base : Heap, (K w.params).In base → base.Ns mainGlobals mg → FnS l.prog w (K w.params) mg base k fa fd [x] (sp w))
    (hsp : ∀ (w : World) (H : Hp) (a : Addr) (ns : List Int), ns.length ≤ n → Only H → SqL (K w.params) H a (ns.map V.int) → sp w [.ref a] H fun v _ => v = .bl true) :
    PySem.W.WalkO q loose XP YP l.row.toRowW d [] (fun f vs => PySem.call f vs) := by
  refine Att.attach_call hn hdf fun w s0 s1 mg mb fa o pm cd doc a vs ns G Y ho hd hcd hmg hobj hints hlen hg => ?_
  have KX := hY w _ Y
  obtain ⟨fd, hb, hF⟩ := F w mg fa _ KX G.T.g hmg
  exact law_run KX G.T.g G.T.b G.T.builtins G.T.nolimit hg hobj hints (Nat.le_trans hlen hn2) hr hF hb fun H hO hS => hsp w H a ns hlen hO hS
end Pu
namespace Pu
open PySem PySem.Spec PyProof.Rows L2
section
variable {K : Fg}
/-! ### tuple(x), list(x) -/
def tupV : List Val → Option Val
  | [x] => (match x.items with
    | some (ds, c) => some (newT c ds)
    | none => none)
  | _ => none
def listV : List Val → Option Val
  | [x] => (match x.items with
    | some (ds, c) => some (newL c ds)
    | none => none)
  | _ => none
theorem cs_tuple : CallS K (fun xs H Q => ∃ p ys, xs = [.ref p] ∧ ((SqL K H p ys ∧ ∀ l, H l = none → Q (.ref l) (upd H l (.tup ys))) ∨ (SqT K H p ys ∧ Q (.ref p) H))) tupV := by
  intro F O A sl p0 p σ H0 H vs xs z Q R0 X0 R rs hg q
  unfold tupV at hg
  split at hg
  · rename_i x
    obtain ⟨v, rfl, r⟩ := rs.one
    split at hg
    · rename_i ds c e
      cases hg
      obtain ⟨a, us, rfl, t, rd⟩ := r.items R0 R e
      refine ⟨a, us, rfl, ?_⟩
      rcases t with ⟨_, _, ha⟩ | ⟨c', e2, ha⟩
      · exact .inl ⟨SqL.of ha, fun l hl => q _ _ (Ex.new R hl) (VR.newT R hl rd)⟩
      · refine .inr ⟨ha, q _ _ (Ex.refl R) ?_⟩
        cases x with
        | sh d =>
          cases d with
          | tuple es => cases e; exact r
          | list es => cases e2
          | _ => cases e
        | bo d =>
          cases d with
          | tuple es => cases e; exact r
          | list es => cases e2
          | _ => cases e
        | fr d =>
          cases d with
          | list es => cases e2
          | _ => cases e
        | ow i d =>
          cases d with
          | list es => cases e2
          | _ => cases e
        | is d =>
          cases d with
          | list es => cases e2
          | _ => cases e
        | pot => cases e
    · cases hg
  · cases hg
theorem cs_list : CallS K (fun xs H Q => ∃ p ys, xs = [.ref p] ∧ (SqL K H p ys ∨ SqT K H p ys) ∧ ∀ l, H l = none → Q (.ref l) (upd H l (.lst ys))) listV := by
  intro F O A sl p0 p σ H0 H vs xs z Q R0 X0 R rs hg q
  unfold listV at hg
  split at hg
  · rename_i x
    obtain ⟨v, rfl, r⟩ := rs.one
    split at hg
    · rename_i ds c e
      cases hg
      obtain ⟨a, us, rfl, t, rd⟩ := r.items R0 R e
      refine ⟨a, us, rfl, ?_, fun l hl => q _ _ (Ex.new R hl) (VR.newL R hl rd)⟩
      rcases t with ⟨_, _, ha⟩ | ⟨_, _, ha⟩
      · exact .inl (SqL.of ha)
      · exact .inr ha
    · cases hg
  · cases hg
end
section
variable {X : Cx} {a b e : Expr} {fa fb f : Ev} {pos pn : Pos}
/-! ### isinstance with two classes -/
def isi2E (T U : String) (fa : Ev) (sl : Sl) (p : Pot) : Option (Val × Pot) := match fa sl p with
  | some (x, p1) => (match x.dat with
    | some (d, _) => (match isiB d T, isiB d U with
      | some b, some c => some (.sh (.bool (b || c)), p1)
      | _, _ => none)
    | none => none)
  | none => none
theorem ce_isi2 {T U : String} {y z : Str} {py pz pt : Pos} {kk : Nat} (ha : CE X a fa) (hm : X.mg "isinstance" = none) (hy : X.mg y = none) (hz : X.mg z = none) (hv : bootBuiltins y = some (.type T)) (hw : bootBuiltins z = some (.type U))
    (hg : Gl X "isinstance" := by rfl) (hgy : Gl X y := by rfl) (hgz : Gl X z := by rfl) (hn : y ≠ "__name__" := by decide) (hn2 : z ≠ "__name__" := by decide) (hd : (y == ("__debug__" : Str)) = false := by decide) (hd2 : (z == ("__debug__" : Str)) = false := by decide)
    (h1 : starEach [a, .Tuple [.Name y py, .Name z pz] kk pt] X.env = (false, eval a X.env) :: starEach [.Tuple [.Name y py, .Name z pz] kk pt] X.env := by rfl) (h2 : starEach [.Tuple [.Name y py, .Name z pz] kk pt] X.env = (false, eval (.Tuple [.Name y py, .Name z pz] kk pt) X.env) :: starEach [] X.env := by rfl)
    (h4 : starEach [.Name y py, .Name z pz] X.env = (false, eval (.Name y py) X.env) :: starEach [.Name z pz] X.env := by rfl) (h5 : starEach [.Name z pz] X.env = (false, eval (.Name z pz) X.env) :: starEach [] X.env := by rfl)
    (h3 : (backTo pos (starEach [.Tuple [.Name y py, .Name z pz] kk pt] X.env)).any (·.1) = false := by rfl) : CE X (.Call (.Name "isinstance" pn) [a, .Tuple [.Name y py, .Name z pz] kk pt] [] pos) (isi2E T U fa) :=
  PEimp (pe_callB call_isiT hg hm (by decide +kernel) (pa_cons ha (pa_cons (pe_tup (pa_cons (pe_bltn (v := .ty T) hgy hy hv rfl hn hd) (pa_cons (pe_bltn (v := .ty U) hgz hz hw rfl hn2 hd2) pa_nil h5) h4)) pa_nil h2) h1) (by decide) (by decide) h1 h3) fun σ H Q h => by
    obtain ⟨F, O, A, sl, p, val, p', R, hf, q⟩ := h
    unfold isi2E at hf
    split at hf
    · rename_i x p1 e1
      split at hf
      · rename_i d c e2
        split at hf
        · rename_i b1 b2 e3 e4
          cases hf
          refine tE.get R e1 fun v H1 x1 r1 => ?_
          have R1 := R.exp x1
          refine ⟨(by decide : 2 ≤ sizeLine), fun t nt => ?_⟩
          have x2 : Ex F H1 (upd H1 t (.tup [V.ty T, V.ty U])) p' := Ex.new R1 nt
          have r2 := r1.exp R x2
          have k : PySem.W.kitAny X.K (.type (tname d)) [.type T, .type U] = some (b1 || b2) := by
            refine kitAny_cons (isiB_kit e3) (fun z => ?_) (fun z => by rw [z]; rfl)
            subst z
            refine kitAny_cons (isiB_kit e4) (fun z => ?_) (fun z => by rw [z]; rfl)
            subst z
            exact kitAny_nil
          exact ⟨v, t, _, _, _, _, rfl, upd_same, .cons (.ty T) (.cons (.ty U) .nil), RD.ty (r2.dat R (R.exp (x1.trans x2)) e2), k, q _ _ (x1.trans x2) (by simp only [VR, RD])⟩
        · cases hf
      · cases hf
    · cases hf
end
end Pu
namespace Pu
open PySem PySem.Spec PyProof.Rows L2 HT
/-! ### x[::-1] of a tuple -/
section
variable {prog : Program} {w : World} {A : Around} {E : Value → Shared → Prop} {s : Shared}
theorem applied_rev {sl : Addr} {u : Tok} {n : Nat} {Q : Int × Int × Nat → Shared → Prop} (hs : s.heap.IsSliceOf sl .none .none (.int (-1) u)) (h : Q ((n : Int) - 1, -1, n) s) :
    wpAny (model prog w) A (Builtin.Slice.sliceApplied (.ref sl) (pure (n : Int))) Q E s := by
  obtain ⟨os, hos, hcs, hds⟩ := id hs
  unfold Builtin.Slice.sliceApplied Builtin.Slice.sliceFields
  refine wpAny_bind (wpAny_bind (wpAny_field hos hds (x := .none) rfl (wpAny_bind (wpAny_field hos hds (x := .none) rfl (wpAny_bind (wpAny_field hos hds (x := .int (-1) u) rfl (wpAny_pure ?_)))))))
  refine wpAny_bind (slicePart_int ?_)
  show wpAny _ _ (if ((-1 : Int) == 0) = true then _ else _) _ _ s
  rw [if_neg (by decide)]
  refine wpAny_bind (slicePart_none (wpAny_bind (slicePart_none (wpAny_bind (wpAny_pure ?_)))))
  show wpAny _ _ (pure ((n : Int) - 1, (-1 : Int), Builtin.Slice.slicePlaces ((n : Int) - 1) (-1) (-1))) _ _ s
  have e : Builtin.Slice.slicePlaces ((n : Int) - 1) (-1) (-1) = n := by
    unfold Builtin.Slice.slicePlaces
    have h1 : ¬ ((-1 : Int) > 0) := by omega
    simp only [h1, if_false]
    split
    · rw [show (-(-1) : Int) = 1 by decide, Int.ediv_one]; omega
    · omega
  rw [e]
  exact wpAny_pure h
theorem fm_congr {α β : Type} {f g : α → Option β} : ∀ {l : List α}, (∀ x ∈ l, f x = g x) → l.filterMap f = l.filterMap g
  | [], _ => rfl
  | a :: l, h => by
    rw [List.filterMap_cons, List.filterMap_cons, h a (List.mem_cons_self ..), fm_congr fun x m => h x (List.mem_cons_of_mem _ m)]
theorem pick_rev (xs : Array Value) : ((List.range xs.size).filterMap fun (m : Nat) => xs[(((xs.size : Int) - 1) + (m : Int) * (-1)).toNat]?).toArray = xs.toList.reverse.toArray := by
  have e : ∀ m ∈ List.range xs.size, xs[(((xs.size : Int) - 1) + (m : Int) * (-1)).toNat]? = ((fun i => xs[i]?) ∘ fun k => xs.size - 1 - k) m := fun m hm => by
    have := List.mem_range.mp hm
    show _ = xs[xs.size - 1 - m]?
    congr 1
    omega
  rw [fm_congr e, ← List.filterMap_map, PySem.W.krv_range, List.filterMap_reverse, PySem.W.krv_all]
theorem getItem_tuple_rev {t sl : Addr} {items : Array Value} {u : Tok} {Q : Value → Shared → Prop} (ht : IsTup s.heap t items) (hs : s.heap.IsSliceOf sl .none .none (.int (-1) u))
    (h : Q (.ref s.heap.objs.size) { s with heap := s.heap.push { cls := .type "tuple", data := .seq items.toList.reverse.toArray } })
    (hsz : items.size ≤ sizeLine) : wpAny (model prog w) A (getItem (.ref t) (.ref sl)) Q E s := by
  have htake : sizeOk (.seq items.toList.reverse.toArray) := by
    show items.toList.reverse.toArray.size ≤ sizeLine
    rw [List.size_toArray, List.length_reverse, Array.length_toList]
    omega
  obtain ⟨os, hos, hcs, hds⟩ := id hs
  have hTs : s.TypeIs (.ref sl) "slice" := ⟨os, hos, hcs⟩
  unfold getItem
  try with_reducible refine wpAny_holding ?_
  first | refine wpAny_bind (wpAny_pure ?_) | skip
  refine wpAny_bind (wpAny_sequenceKey ht.typeIs (by decide) ?_)
  refine wpAny_bind (wpAny_callSpecial?_slot (name := Str.ofString "__getitem__") ht.typeIs PyProof.Rows.slot_tuple_getitem
    (wpAny_call_entry PyProof.Rows.slot_tuple_getitem ht.typeIs entry_tuple_getitem ?_ (args_tuple_getitem _ _)))
  show wpAny _ _ (Builtin.Tuple.tupleItemsOf (.ref t) >>= _) _ _ s
  refine wpAny_bind (tupleItemsOf_ ht ?_)
  refine wpAny_bind (wpAny_typeOf hTs ?_)
  rw [if_pos (by decide)]
  refine wpAny_bind (applied_rev hs ?_)
  have hno : ¬ ((((items.size : Int) - 1) == 0 && (-1 : Int) == 1 && items.size == items.size) = true) := by
    intro q
    rw [Bool.and_eq_true, Bool.and_eq_true] at q
    exact absurd q.1.2 (by decide)
  show wpAny _ _ (if (((items.size : Int) - 1) == 0 && (-1 : Int) == 1 && items.size == items.size) = true then _ else _) _ _ s
  rw [if_neg hno, pick_rev]
  first
    | exact wpAny_bind (m := Builtin.Tuple.tupleExact _) (wpAny_newObj_type (wpAny_pure ⟨_, rfl, wpAny_pure h⟩) htake)
    | exact wpAny_bind (m := Builtin.Tuple.tupleExact _) (wpAny_newObj_type (wpAny_bind (wpAny_pure (wpAny_pure ⟨_, rfl, wpAny_pure h⟩))) htake)
    | exact wpAny_bind (wpAny_bind (m := Builtin.Tuple.tupleExact _) (wpAny_newObj_type (wpAny_pure (wpAny_pure ⟨_, rfl, wpAny_pure h⟩)) htake))
    | exact wpAny_bind (wpAny_bind (m := Builtin.Tuple.tupleExact _) (wpAny_newObj_type (wpAny_pure ⟨_, rfl, wpAny_pure h⟩) htake))
end
section
variable {X : Cx}
def tRevA (K : Fg) (te : TE) : TE := fun σ H Q => te σ H fun x H1 => ∃ a xs, x = .ref a ∧ ((SqL K H1 a xs ∧ ∀ p, H1 p = none → Q (.ref p) (upd H1 p (.lst xs.reverse))) ∨ (SqT K H1 a xs ∧ ∀ p, H1 p = none → Q (.ref p) (upd H1 p (.tup xs.reverse))))
theorem pe_revTA {e : Expr} {te : TE} {k : Nat} {p1 p2 p3 pos : Pos} (he : PE X e te) : PE X (.Subscript e (.Slice none none (some (.UnaryOp .USub (.Constant (.int 1) k p1) p2)) p3) pos) (tRevA X.K te) := by
  refine ⟨fun pins s σ H Q I h => ?_⟩
  refine Subscript_ (thn (he.run pins s σ H _ I h) fun v s1 ⟨x, H1, I1, r1, q1⟩ => ?_)
  obtain ⟨a, xs, ex, hh⟩ := q1
  subst ex
  cases r1
  have hst : PO X (some (.UnaryOp .USub (.Constant (.int 1) k p1) p2)) (tPart (tUn (rU fun i => .int (-i)) (tC (.int 1)))) := po_some (pe_un un_neg pe_int)
  refine wpAny_Slice (thn (po_none.run pins s1 σ H1 (fun o H2 => o = none ∧ H2 = H1) I1 ⟨rfl, rfl⟩) fun vl s2 ⟨l, H2, I2, pl, el, e2⟩ => ?_)
  subst el e2
  refine thn (po_none.run pins s2 σ H2 (fun o H3 => o = none ∧ H3 = H2) I2 ⟨rfl, rfl⟩) fun vu s3 ⟨u, H3, I3, pu, eu, e3⟩ => ?_
  subst eu e3
  refine thn (hst.run pins s3 σ H3 (fun o H4 => o = some (-1) ∧ H4 = H3) I3 ⟨1, rfl, -1, rfl, rfl, rfl⟩) fun vs s4 ⟨o, H4, I4, ps, eo, e4⟩ => ?_
  subst eo e4
  have I5 : Inv X pins σ H4 { s4 with heap := s4.heap.push { cls := .type "slice", data := .fields #[vl, vu, vs] } } := I4.kept (t' := s4.toks) fun b ob q => Heap.get?_push_of_some _ q
  show wpAny (model X.prog X.w) X.A (subscriptTail e (.Slice none none (some (.UnaryOp .USub (.Constant (.int 1) k p1) p2)) p3) (.ref a) (.ref s4.heap.objs.size)) (EP X pins σ Q) X.xe { s4 with heap := s4.heap.push { cls := .type "slice", data := .fields #[vl, vu, vs] } }
  rcases hh with ⟨hx, q⟩ | ⟨hx, q⟩
  · obtain ⟨its, r, ht, hz⟩ := I5.list hx
    have hlen := r.length
    refine tail_any (ops := [.ref a, .ref s4.heap.objs.size]) ht.isList.typeIs (PySem.slot_list_getitem.lookup) ?_ (by with_unfolding_all rfl)
    refine wpAny_getItem_list_slice ht.isList (Heap.IsSliceOf.new _ vl vu vs) pl pu ps (by decide) ?_ (by rw [List.size_toArray]; omega)
    rw [PySem.W.krv_pick]
    refine ⟨.ref _, _, I5.laid (t' := s4.toks) (o := .lst xs.reverse) (fun b ob q => Heap.get?_push_of_some _ q) (Nat.le_refl _) ?_, rfl, q _ (I5.hok.fresh (Nat.le_refl _))⟩
    exact ⟨by rw [List.length_reverse]; exact hz, _, 0, r.reverse, Heap.get?_push_size _ rfl⟩
  · obtain ⟨its, r, ht, hz⟩ := I5.tuple hx
    have hlen := r.length
    cases pl
    cases pu
    cases ps
    refine tail_any (ops := [.ref a, .ref s4.heap.objs.size]) ht.typeIs (PyProof.Rows.slot_tuple_getitem.lookup) ?_ (by with_unfolding_all rfl)
    refine getItem_tuple_rev ht (Heap.IsSliceOf.new _ _ _ _) ?_ (by rw [List.size_toArray]; omega)
    refine ⟨.ref _, _, I5.laid (t' := s4.toks) (o := .tup xs.reverse) (fun b ob q => Heap.get?_push_of_some _ q) (Nat.le_refl _) ?_, rfl, q _ (I5.hok.fresh (Nat.le_refl _))⟩
    exact ⟨by rw [List.length_reverse]; exact hz, _, r.reverse, IsTup.new _ _⟩
end
/-- x[::-1] -/
def revV (x : Val) : Option Val := match x.dat with
  | some (.tuple ds, c) => some (newT c ds.reverse)
  | some (.list _, _) => (match x.items with
    | some (ds, c) => some (newL c ds.reverse)
    | none => none)
  | _ => none
section
variable {X : Cx} {a : Expr} {fa : Ev} {pos : Pos}
theorem ce_rev {k : Nat} {p1 p2 p3 : Pos} (ha : CE X a fa) : CE X (.Subscript a (.Slice none none (some (.UnaryOp .USub (.Constant (.int 1) k p1) p2)) p3) pos) (unE revV fa) := PEimp (pe_revTA ha) fun σ H Q h => by
  obtain ⟨F, O, A, sl, p, val, p', R, hf, q⟩ := h
  unfold unE at hf
  split at hf
  · rename_i x p1 e1
    split at hf
    · rename_i z e2
      cases hf
      unfold revV at e2
      refine tE.get R e1 fun v H1 x1 r1 => ?_
      have R1 := R.exp x1
      split at e2
      · rename_i ds c e3
        cases e2
        obtain ⟨t, vs, rfl, ht, rd⟩ := r1.tupItems R R1 e3
        exact ⟨t, vs, rfl, .inr ⟨ht, fun q' hq => q _ _ (x1.trans (Ex.new R1 hq)) ((VR.newT R1 hq rd.rev).back x1)⟩⟩
      · rename_i ds0 c0 e3
        split at e2
        · rename_i ds c e4
          cases e2
          obtain ⟨t, vs, rfl, ht, rd⟩ := r1.items R R1 e4
          refine ⟨t, vs, rfl, .inl ⟨?_, fun q' hq => q _ _ (x1.trans (Ex.new R1 hq)) ((VR.newL R1 hq rd.rev).back x1)⟩⟩
          rcases ht with ⟨_, _, ha⟩ | ⟨_, e7, _⟩
          · exact SqL.of ha
          · rw [e3] at e7; cases e7
        · cases e2
      · cases e2
    · cases hf
  · cases hf
end
end Pu
namespace Pu
open PySem PySem.Spec PyProof.Rows L2
/-- x[i] = e, x a list of one's own -/
def setIS (i : Nat) (fb f : Ev) (sl : Sl) (p : Pot) : Option Out := match f sl p with
  | some (val, p1) => (match val.dat with
    | some (d, _) => (match fb (calm val sl) p1 with
      | some (.sh (.int k), p2) => (match (calm val sl)[i]? with
        | some (.own (.list ds)) => (match ixN ds.length k with
          | some j => some (.nx ((calm val sl).set i (.own (.list (ds.set j d)))) p2)
          | none => none)
        | _ => none)
      | _ => none)
    | none => none)
  | none => none
section
variable {X : Cx} {e b : Expr} {f fb : Ev} {pos np tp : Pos} {x : Str}
theorem cs_setI (i : Nat) (he : CE X e f) (hb : CE X b fb) (hN : X.N[i]? = some x := by rfl) (hv : Vis X.env.scope x := by first | exact Or.inl rfl | exact Or.inr (Or.inl rfl) | exact Or.inr (Or.inr rfl)) (hd : (x == ("__debug__" : Str)) = false := by decide) (hcd : (x == ("__classdict__" : Str)) = false := by decide)
    (hs : swapsWithSole [.Subscript (.Name x np) b tp] e pos.line X.env = pure false := by rfl) (hw : swappedStores [.Subscript (.Name x np) b tp] e X.env = pure none := by rfl)
    (h1 : (assignEach [.Subscript (.Name x np) b tp] X.env).map (·.2) = [assign (.Subscript (.Name x np) b tp) X.env] := by rfl)
    (hsub : ∀ v, assign (.Subscript (.Name x np) b tp) X.env v = (do
      let ov ← holding [v] (eval (.Name x np) X.env)
      let iv ← holding [v, ov] (eval b X.env)
      standAt tp
      holding [v, ov, iv] (setItem ov iv v)
      release [v, ov, iv] []) := by intro _; rfl) :
    CS X (.Assign [.Subscript (.Name x np) b tp] e pos) (setIS i fb f) := PSimp (ps_asg he (pg_sub (pe_var hN hv hd hcd) hb set_list hsub) hs hw h1) fun D σ H h => by
  obtain ⟨F, O, A, sl, p, out, R, hf, q⟩ := h
  unfold setIS at hf
  split at hf
  · rename_i val p1 e1
    split at hf
    · rename_i d c e2
      split at hf
      · rename_i k p2 e3
        split at hf
        · rename_i ds e4
          split at hf
          · rename_i j e5
            cases hf
            refine tE.get R e1 fun v H1 x1 r1 => ?_
            obtain ⟨O', R', rd, sub⟩ := calm_ok R (R.exp x1) r1 e2
            obtain ⟨es, rc, oi, zi⟩ := R'.slot i _ e4
            refine ⟨_, es, ?_⟩
            refine tE.get R' e3 fun u H2 x2 r2 => ?_
            have eu := rdI (K := X.K) (O := O') (H := H2) r2
            subst eu
            have R2 := R'.exp x2
            obtain ⟨_, rc2, _, _⟩ := R2.slot i _ e4
            obtain ⟨us, hl, rs⟩ := rc2
            have rd2 := rd.map (ex_map R'.ap x2)
            refine ⟨A i, us, k, j, rfl, rfl, hl, by rw [rs.length]; exact e5, ?_⟩
            refine q O' A σ _ (R2.write e4 ⟨us.set j v, upd_same, (rs.set j rd2).map (R2.mapW e4)⟩) ?_
            exact (((R.tr x1).trans (tr_sub sub)).trans (R'.tr x2)).trans (R2.trW e4)
          · cases hf
        · cases hf
      · cases hf
    · cases hf
  · cases hf
end
/-- a reading that is never had holds of any def -/
theorem FnG.never {P : Program} {w : World} {K : Fg} {mg : Str → Option Value} {base : Heap} {k : Nat} {f : Addr} {fd : FuncData} {ps : List Str} {G : Fn} (h : ∀ as p, G as p = none) : FnG P w K mg base k f fd ps G :=
  ⟨fun A outer s H args us vs Q _ _ _ _ _ hsp => by
    obtain ⟨_, ap, Oc, as, p, val, p', _, _, _, _, e, _⟩ := hsp
    rw [h] at e
    cases e⟩
end Pu
namespace Pu
open PySem PySem.Spec PyProof.Rows L2
/-! ### dicts: displays, get -/
def dnewE (_ : Sl) (p : Pot) : Option (Val × Pot) := some (.fr (.dict []), p)
def isKey : PyData → Bool
  | .int _ => true
  | .str _ => true
  | _ => false
def kEq : PyData → PyData → Bool
  | .int i, .int j => decide (i = j)
  | .str i, .str j => decide (i = j)
  | _, _ => false
def lookD (kvs : List (PyData × PyData)) (k : PyData) : Option PyData := (kvs.find? fun p => kEq p.1 k).map (·.2)
/-- the pairs of a display: keys are ints or texts, no key comes twice, values reach no owned slot -/
def pairsE : List (Ev × Ev) → Sl → Pot → Option (List (PyData × PyData) × Pot)
  | [], _, p => some ([], p)
  | (fk, fv) :: fs, sl, p => match fk sl p with
    | some (.sh k, p1) => if isKey k = true then (match fv sl p1 with
      | some (x, p2) => (match x.dat with
        | some (d, true) => (match pairsE fs sl p2 with
          | some (r, p3) => some ((k, d) :: r, p3)
          | none => none)
        | _ => none)
      | none => none) else none
    | _ => none
def distinct : List (PyData × PyData) → Bool
  | [] => true
  | p :: r => r.all (fun q => !kEq q.1 p.1) && distinct r
def dictE (fs : List (Ev × Ev)) (sl : Sl) (p : Pot) : Option (Val × Pot) := match pairsE fs sl p with
  | some (kvs, p1) => if distinct kvs = true ∧ kvs.length ≤ 15 then some (.fr (.dict kvs), p1) else none
  | none => none
def keyOf : PyData → Key
  | .int i => .inl i
  | .str s => .inr s
  | _ => .inl 0
theorem kD_keyOf {d : PyData} (h : isKey d = true) : kD (keyOf d) = d := by
  cases d <;> first | rfl | cases h
theorem kV_of {K : Fg} {O : Pred} {H : Hp} {d : PyData} {v : V} (h : isKey d = true) (r : RD K O H d v) : v = kV (keyOf d) := by
  cases d with
  | int i => exact rdI r
  | str i => exact rdS r
  | _ => cases h
theorem kEq_iff {k j : Key} : kEq (kD k) (kD j) = decide (k = j) := by
  cases k <;> cases j <;> simp [kEq, kD]
theorem merge_new : ∀ (kvs acc : List (Key × V)), (∀ q ∈ kvs, valV acc q.1 = none) → kvs.Pairwise (fun a b => a.1 ≠ b.1) → mergeK acc kvs = acc ++ kvs
  | [], acc, _, _ => by simp [mergeK]
  | q :: r, acc, h, hp => by
    have h1 := h q (List.mem_cons_self ..)
    rw [List.pairwise_cons] at hp
    have ih := merge_new r (acc ++ [(q.1, q.2)]) (fun x m => by
      rw [valV_snoc _ _ _ _ h1, if_neg fun z => hp.1 x m z.symm]
      exact h x (List.mem_cons_of_mem _ m)) hp.2
    show mergeK (putK acc q.1 q.2) r = _
    rw [putK_new q.2 h1, ih, List.append_assoc]
    rfl
section
variable {K : Fg} {F : Fc} {A : Nat → Addr} {σ : L2.St}
abbrev tFs (K : Fg) (fs : List (Ev × Ev)) : List (TE × TE) := fs.map fun f => (tE K f.1, tE K f.2)
theorem pairs_ok : ∀ {fs : List (Ev × Ev)} {O : Pred} {sl : Sl} {p p1 : Pot} {kvs : List (PyData × PyData)} {H : Hp} {Qp : List (V × V) → Hp → Prop}, Rl K F O A sl p σ H → pairsE fs sl p = some (kvs, p1) →
    (∀ (kv : List (Key × V)) (H2 : Hp), Ex F H H2 p1 → kvs.map (·.1) = kv.map (fun q => kD q.1) → RDk K O H2 kvs (kv.map (·.2)) → Qp (kv.map fun q => (kV q.1, q.2)) H2) → tPairs (tFs K fs) σ H Qp
  | [], O, sl, p, p1, kvs, H, Qp, R, e, q => by
    cases e
    exact q [] H (Ex.refl R) rfl (by simp only [RDk, List.map_nil])
  | (fk, fv) :: fs, O, sl, p, p1, kvs, H, Qp, R, e, q => by
    unfold pairsE at e
    split at e
    · rename_i k pk ek
      split at e
      · rename_i ik
        split at e
        · rename_i x pv ev
          split at e
          · rename_i d ed
            split at e
            · rename_i r pr er
              cases e
              refine tE.get R ek fun v H1 x1 r1 => ?_
              have R1 := R.exp x1
              have ekv := kV_of (K := K) (O := O) (H := H1) ik r1
              refine tE.get R1 ev fun u H2 x2 r2 => ?_
              have R2 := R1.exp x2
              have rd : RD K O H2 d u := r2.dat R1 R2 ed
              refine pairs_ok R2 er fun kv H3 x3 hk rk => ?_
              rw [ekv]
              exact q ((keyOf k, u) :: kv) H3 ((x1.trans x2).trans x3) (by simp only [List.map_cons, kD_keyOf ik, hk]) (by
                simp only [List.map_cons, RDk]
                exact ⟨u, _, rfl, rd.map (ex_map R.ap x3), rk⟩)
            · cases e
          · cases e
        · cases e
      · cases e
    · cases e
end
section
variable {X : Cx} {pos : Pos}
theorem ce_dnew : CE X (.Dict [] [] pos) dnewE := PEimp pe_dnewK fun σ H Q h => by
  obtain ⟨F, O, A, sl, p, val, p', R, hf, q⟩ := h
  cases hf
  exact fun a na => q _ _ (Ex.new R na) ⟨a, rfl, na, .inl ⟨[], upd_same, rfl, by simp only [RDk, List.map_nil]⟩⟩
theorem cps_nil : PPs X pos [] [] (tFs X.K []) := pps_nil
theorem cps_cons {k v : Expr} {ks : List (Option Expr)} {vs : List Expr} {fk fv : Ev} {fs : List (Ev × Ev)} (hk : CE X k fk) (hv : CE X v fv) (hr : PPs X pos ks vs (tFs X.K fs)) : PPs X pos (some k :: ks) (v :: vs) (tFs X.K ((fk, fv) :: fs)) := pps_cons hk hv hr
theorem RDk.map2 {K : Fg} {O O' : Pred} {H H' : Hp} (h : ∀ b x, ¬ O b → H b = some x → ¬ O' b ∧ H' b = some x) {ds : List (PyData × PyData)} {vs : List V} (r : RDk K O H ds vs) : RDk K O' H' ds vs := RDk.map h r
theorem ce_dict {keys : List (Option Expr)} {values : List Expr} {fs : List (Ev × Ev)} (h : PPs X pos keys values (tFs X.K fs)) (hall : keys.all (·.isSome) = true := by rfl) (hl : keys.length = values.length := by rfl) (h0 : keys ≠ [] := by exact fun z => nomatch z)
    (h15 : keys.length ≤ 15 := by decide) : CE X (.Dict keys values pos) (dictE fs) := PEimp (pe_disp h hall hl h0 h15) fun σ H Q hh => by
  obtain ⟨F, O, A, sl, p, val, p', R, hf, q⟩ := hh
  unfold dictE at hf
  split at hf
  · rename_i kvs p1 e1
    split at hf
    · rename_i hd
      cases hf
      intro a na
      have x0 : Ex F H (upd H a (.dK [])) p := Ex.new R na
      have R0 := R.add na x0 (by rw [upd_same]; exact fun z => nomatch z)
      have nap : a ≠ F.ap := fun z => R.potNe (by rw [← z]; exact na)
      refine pairs_ok R0 e1 fun kv H2 x2 hk rk => ?_
      have ha : H2 a = some (.dK []) := x2.keep _ _ nap upd_same
      have hlen : kv.length = kvs.length := by
        have := congrArg List.length hk
        simpa using this.symm
      have hpw : kv.Pairwise fun a b => a.1 ≠ b.1 := by
        have gen : ∀ (kvs : List (PyData × PyData)) (kv : List (Key × V)), kvs.map (·.1) = kv.map (fun q => kD q.1) → distinct kvs = true → kv.Pairwise fun a b => a.1 ≠ b.1 := by
          intro kvs
          induction kvs with
          | nil =>
            intro kv hk _
            cases kv with
            | nil => exact .nil
            | cons _ _ => simp at hk
          | cons c r ih =>
            intro kv hk hd
            cases kv with
            | nil => simp at hk
            | cons g t =>
              simp only [List.map_cons, List.cons.injEq] at hk
              simp only [distinct, Bool.and_eq_true, List.all_eq_true] at hd
              refine List.pairwise_cons.mpr ⟨fun y hy e => ?_, ih t hk.2 hd.2⟩
              have hm : kD y.1 ∈ r.map (·.1) := by rw [hk.2]; exact List.mem_map.mpr ⟨y, hy, rfl⟩
              obtain ⟨z, hz, ez⟩ := List.mem_map.mp hm
              have := hd.1 z hz
              rw [ez, hk.1, kEq_iff, e] at this
              simp at this
        exact gen kvs kv hk hd.1
      have hm : mergeK [] kv = kv := by
        rw [merge_new kv [] (fun _ _ => rfl) hpw, List.nil_append]
      refine ⟨ha, kv, rfl, by rw [hlen]; exact hd.2, ?_⟩
      rw [hm]
      have xf : Ex F H (upd H2 a (.dK kv)) p' := by
        refine ⟨fun b y nb eb => ?_, ?_⟩
        · have nba : b ≠ a := fun z => by rw [z, na] at eb; cases eb
          rw [upd_ne nba]
          exact x2.keep _ _ nb (by rw [upd_ne nba]; exact eb)
        · rw [upd_ne (Ne.symm nap)]
          exact x2.pot
      refine q _ _ xf ⟨a, rfl, na, .inl ⟨kv, upd_same, hk, RDk.map2 (fun b y nb eb => ⟨nb, ?_⟩) rk⟩⟩
      rw [upd_ne (fun z => nb (.inr z))]
      exact eb
    · cases hf
  · cases hf
end
def isDk : List (PyData × PyData) → Bool
  | (k, _) :: _ => isKey k
  | [] => false
/-- d.get(k, x) -/
def get2E (fo fk fd : Ev) (sl : Sl) (p : Pot) : Option (Val × Pot) := match fo sl p with
  | some (x, p1) => (match x.dat with
    | some (.dict kvs, c) => if isDk kvs = true then (match fk sl p1 with
      | some (.sh k, p2) => if isKey k = true then (match fd sl p2 with
        | some (z, p3) => (match lookD kvs k with
          | some d => some (shf c d, p3)
          | none => some (z, p3))
        | none => none) else none
      | _ => none) else none
    | _ => none)
  | none => none
theorem look_ok {K : Fg} {O : Pred} {H : Hp} {k : Key} : ∀ {kvs : List (PyData × PyData)} {kv : List (Key × V)}, kvs.map (·.1) = kv.map (fun q => kD q.1) → RDk K O H kvs (kv.map (·.2)) →
    (lookD kvs (kD k) = none ∧ valV kv k = none) ∨ ∃ d v, lookD kvs (kD k) = some d ∧ valV kv k = some v ∧ RD K O H d v
  | [], [], _, _ => .inl ⟨rfl, rfl⟩
  | [], _ :: _, h, _ => by simp at h
  | _ :: _, [], h, _ => by simp at h
  | (a, d) :: r, (g, u) :: t, h, rk => by
    simp only [List.map_cons, List.cons.injEq] at h
    simp only [List.map_cons, RDk, List.cons.injEq] at rk
    obtain ⟨v, w, ⟨rfl, rfl⟩, rd, rk⟩ := rk
    have ih := look_ok (k := k) h.2 rk
    have e1 : lookD ((a, d) :: r) (kD k) = if g = k then some d else lookD r (kD k) := by
      unfold lookD
      rw [List.find?_cons, h.1, kEq_iff]
      by_cases e : g = k
      · simp [e]
      · simp [e]
    by_cases e : g = k
    · rw [e1, if_pos e, valV_pos (p := (g, u)) e]
      exact .inr ⟨d, u, rfl, rfl, rd⟩
    · rw [e1, if_neg e, valV_neg (p := (g, u)) e]
      exact ih
theorem dict_dk {K : Fg} {O : Pred} {H : Hp} {kvs : List (PyData × PyData)} {v : V} (h : isDk kvs = true) (r : RD K O H (.dict kvs) v) : ∃ a, v = .ref a ∧ ¬ O a ∧ ∃ kv : List (Key × V), H a = some (.dK kv) ∧ kvs.map (·.1) = kv.map (fun p => kD p.1) ∧ RDk K O H kvs (kv.map (·.2)) := by
  simp only [RD] at r
  obtain ⟨a, e, n, q⟩ := r
  rcases q with q | ⟨kv, _, ek, _⟩
  · exact ⟨a, e, n, q⟩
  · cases kvs with
    | nil => cases h
    | cons c t =>
      cases kv with
      | nil => simp at ek
      | cons g u =>
        simp only [List.map_cons, List.cons.injEq] at ek
        have h' : isKey c.1 = true := h
        rw [ek.1] at h'
        cases h'
section
variable {X : Cx} {o e f : Expr} {fo fk fd : Ev} {apos cpos : Pos}
theorem ce_get2 (hu : X.A.units + 1 < cLine) (ho : CE X o fo) (he : CE X e fk) (hf : CE X f fd) (h1 : attributeBase o "get" X.env (eval o X.env) = eval o X.env := by rfl)
    (h2 : ((backTo cpos (starEach [e, f] X.env)).all (fun x => !x.1) && (backToKw cpos (keywordEach [] X.env)).all (fun x => x.1.isSome) && decide (([e, f] : List Expr).length + ([] : List Keyword).length + (if ([] : List Keyword).isEmpty then 0 else 1) < 30)) = true := by rfl)
    (h3 : (apos.endLine == cpos.line) = true := by rfl) (h4 : backTo cpos (starEach [e, f] X.env) = [(false, eval e X.env), (false, eval f X.env)] := by rfl) : CE X (.Call (.Attribute o "get" apos) [e, f] [] cpos) (get2E fo fk fd) :=
  PEimp (pe_dget2 hu ho he hf ⟨h1, h2, h3, h4⟩) fun σ H Q h => by
    obtain ⟨F, O, A, sl, p, val, p', R, hf, q⟩ := h
    unfold get2E at hf
    split at hf
    · rename_i x p1 e1
      split at hf
      · rename_i kvs c e2
        split at hf
        · rename_i hk
          split at hf
          · rename_i k p2 e3
            split at hf
            · rename_i ik
              split at hf
              · rename_i z p3 e4
                refine tE.get R e1 fun v H1 x1 r1 => ?_
                have R1 := R.exp x1
                obtain ⟨a, rfl, na, kv, ha, _, _⟩ := dict_dk hk (r1.dat R R1 e2)
                refine ⟨a, rfl, .inl ⟨kv, .inl ha⟩, ?_⟩
                refine tE.get R1 e3 fun u H2 x2 r2 => ?_
                have R2 := R1.exp x2
                have eu := kV_of (K := X.K) (O := O) (H := H2) ik r2
                refine tE.get R2 e4 fun w H3 x3 r3 => ?_
                have R3 := R2.exp x3
                have x12 := x1.trans x2
                have x123 := x12.trans x3
                have r13 := r1.exp R (x2.trans x3)
                obtain ⟨a', ea, na', kv', ha', hk', rk'⟩ := dict_dk hk (r13.dat R R3 e2)
                cases ea
                refine ⟨valV kv' (keyOf k), .inl ⟨kv', keyOf k, .inl ha', eu, rfl⟩, ?_⟩
                have lk := look_ok (k := keyOf k) hk' rk'
                rw [kD_keyOf ik] at lk
                rcases lk with ⟨l1, l2⟩ | ⟨d, y, l1, l2, rd⟩
                · rw [l1] at hf
                  cases hf
                  rw [l2]
                  exact q _ _ x123 (r3.back x12)
                · rw [l1] at hf
                  cases hf
                  rw [l2]
                  exact q _ _ x123 (VR.shf rd)
              · cases hf
            · cases hf
          · cases hf
        · cases hf
      · cases hf
    · cases hf
theorem u1 {k : Nat} {A : Around} (hr : Room k A) : A.units + 1 < cLine := by have := hr.un; omega
end
end Pu
namespace Pu
open PySem PySem.Spec PyProof.Rows L2
/-! ### max, min of more -/
def max3K : List PyData → Option PyData
  | [.int i, .int j, .int k] => some (.int (max (max i j) k))
  | _ => none
def min3K : List PyData → Option PyData
  | [.int i, .int j, .int k] => some (.int (min (min i j) k))
  | _ => none
theorem rds3 {K : Fg} {O1 : Pred} {H : Hp} {d e f : PyData} {vs : List V} (r : RDs K O1 H [d, e, f] vs) : ∃ v u t, vs = [v, u, t] ∧ RD K O1 H d v ∧ RD K O1 H e u ∧ RD K O1 H f t := by
  simp only [RDs] at r
  obtain ⟨v, t, rfl, h, u, t', rfl, h2, x, t2, rfl, h3, rfl⟩ := r
  exact ⟨v, u, x, rfl, h, h2, h3⟩
theorem nuM2 (i j : Int) : nuMax2 (.int i) (.int j) = some (.int (max i j)) := by
  show (some (decide (i < j))).map _ = _
  by_cases h : i < j
  · simp [h, Int.max_eq_right (Int.le_of_lt h)]
  · simp [h, Int.max_eq_left (show j ≤ i by omega)]
theorem nuN2 (i j : Int) : nuMin2 (.int i) (.int j) = some (.int (min i j)) := by
  show (some (decide (j < i))).map _ = _
  by_cases h : j < i
  · simp [h, Int.min_eq_right (Int.le_of_lt h)]
  · simp [h, Int.min_eq_left (show i ≤ j by omega)]
theorem cs_max3 {K : Fg} : CallS K (rNuC3 nuMax3) (cF max3K) := cs_flat fun O1 H vs ds z Q r hz q => by
  unfold max3K at hz
  split at hz
  · rename_i i j k
    cases hz
    obtain ⟨v, u, t, rfl, h1, h2, h3⟩ := rds3 r
    rw [rdI h1, rdI h2, rdI h3]
    refine ⟨_, _, _, _, rfl, ?_, q _ toI⟩
    unfold nuMax3
    rw [nuM2]
    exact nuM2 _ _
  · cases hz
theorem cs_min3 {K : Fg} : CallS K (rNuC3 nuMin3) (cF min3K) := cs_flat fun O1 H vs ds z Q r hz q => by
  unfold min3K at hz
  split at hz
  · rename_i i j k
    cases hz
    obtain ⟨v, u, t, rfl, h1, h2, h3⟩ := rds3 r
    rw [rdI h1, rdI h2, rdI h3]
    refine ⟨_, _, _, _, rfl, ?_, q _ toI⟩
    unfold nuMin3
    rw [nuN2]
    exact nuN2 _ _
  · cases hz
/-- of a list of ints -/
def maxLK : List PyData → Option PyData
  | [.list ds] => (match intsOf ds with
    | some (n :: ns) => some (.int (ns.foldl max n))
    | _ => none)
  | _ => none
def minLK : List PyData → Option PyData
  | [.list ds] => (match intsOf ds with
    | some (n :: ns) => some (.int (ns.foldl min n))
    | _ => none)
  | _ => none
theorem fold_max : ∀ (ns : List Int) (n m : Int), m ∈ n :: ns → (∀ y, y ∈ n :: ns → y ≤ m) → ns.foldl max n = m
  | [], n, m, h, _ => by
    have e : m = n := by simpa using h
    exact e.symm
  | a :: ns, n, m, h, h2 => by
    show ns.foldl max (max n a) = m
    have hn := h2 n (List.mem_cons_self ..)
    have ha := h2 a (List.mem_cons_of_mem _ (List.mem_cons_self ..))
    refine fold_max ns (max n a) m ?_ fun y hy => ?_
    · rcases List.mem_cons.mp h with rfl | h
      · rw [Int.max_eq_left ha]; exact List.mem_cons_self ..
      · rcases List.mem_cons.mp h with rfl | h
        · rw [Int.max_eq_right hn]; exact List.mem_cons_self ..
        · exact List.mem_cons_of_mem _ h
    · rcases List.mem_cons.mp hy with rfl | hy
      · exact Int.max_le.mpr ⟨hn, ha⟩
      · exact h2 y (List.mem_cons_of_mem _ (List.mem_cons_of_mem _ hy))
theorem fold_min : ∀ (ns : List Int) (n m : Int), m ∈ n :: ns → (∀ y, y ∈ n :: ns → m ≤ y) → ns.foldl min n = m
  | [], n, m, h, _ => by
    have e : m = n := by simpa using h
    exact e.symm
  | a :: ns, n, m, h, h2 => by
    show ns.foldl min (min n a) = m
    have hn := h2 n (List.mem_cons_self ..)
    have ha := h2 a (List.mem_cons_of_mem _ (List.mem_cons_self ..))
    refine fold_min ns (min n a) m ?_ fun y hy => ?_
    · rcases List.mem_cons.mp h with rfl | h
      · rw [Int.min_eq_left ha]; exact List.mem_cons_self ..
      · rcases List.mem_cons.mp h with rfl | h
        · rw [Int.min_eq_right hn]; exact List.mem_cons_self ..
        · exact List.mem_cons_of_mem _ h
    · rcases List.mem_cons.mp hy with rfl | hy
      · exact Int.le_min.mpr ⟨hn, ha⟩
      · exact h2 y (List.mem_cons_of_mem _ (List.mem_cons_of_mem _ hy))
theorem cs_maxL {K : Fg} : CallS K (rMax K) (cF maxLK) := cs_flat fun O1 H vs ds z Q r hz q => by
  unfold maxLK at hz
  split at hz
  · rename_i es
    split at hz
    · rename_i n ns h1
      cases hz
      obtain ⟨v, rfl, h⟩ := rds1 r
      obtain ⟨a, us, rfl, h2, h3⟩ := rdL h
      rw [of_intsOf h1] at h3
      rw [RDs.of_ints h3] at h2
      refine ⟨a, n :: ns, rfl, h2, by simp, fun m hm hle => ?_⟩
      rw [← fold_max ns n m hm hle]
      exact q _ toI
    · cases hz
  · cases hz
theorem cs_minL {K : Fg} : CallS K (rMin K) (cF minLK) := cs_flat fun O1 H vs ds z Q r hz q => by
  unfold minLK at hz
  split at hz
  · rename_i es
    split at hz
    · rename_i n ns h1
      cases hz
      obtain ⟨v, rfl, h⟩ := rds1 r
      obtain ⟨a, us, rfl, h2, h3⟩ := rdL h
      rw [of_intsOf h1] at h3
      rw [RDs.of_ints h3] at h2
      refine ⟨a, n :: ns, rfl, h2, by simp, fun m hm hle => ?_⟩
      rw [← fold_min ns n m hm hle]
      exact q _ toI
    · cases hz
  · cases hz
end Pu
namespace Pu
open PySem PySem.Spec PyProof.Rows L2
mutual
theorem plain_of : ∀ d : PyData, d.hasDict = false → d.plain = true
  | .none, _ => rfl
  | .bool _, _ => rfl
  | .int _, _ => rfl
  | .str _, _ => rfl
  | .list xs, h => by
    simp only [PyData.plain]
    exact plainAll_of xs (by simpa only [PyData.hasDict] using h)
  | .tuple xs, h => by
    simp only [PyData.plain]
    exact plainAll_of xs (by simpa only [PyData.hasDict] using h)
  | .dict _, h => by simp only [PyData.hasDict] at h; cases h
theorem plainAll_of : ∀ xs : List PyData, PyData.hasDictAll xs = false → PyData.plainAll xs = true
  | [], _ => rfl
  | x :: xs, h => by
    simp only [PyData.hasDictAll, Bool.or_eq_false_iff] at h
    simp only [PyData.plainAll, plain_of x h.1, plainAll_of xs h.2, Bool.and_self]
end
/-! ### == of data -/
def eqB : PyData → PyData → Option Bool
  | .str a, .str b => some (decide (a = b))
  | .int a, .int b => some (decide (a = b))
  | .tuple ds, .tuple [] => some (ds.length == 0)
  | d, e => if d.hasDict = false ∧ e.hasDict = false ∧ d.depth ≤ 60 then some (d.eqv e) else none
def eqP (d e : PyData) : Option PyData := (eqB d e).map .bool
def neP (d e : PyData) : Option PyData := (eqB d e).map fun b => .bool (!b)
def rEqP (K : Fg) : R2 := fun x y H Q => ∃ (O1 O2 : Pred) (d e : PyData) (b : Bool), RD K O1 H d x ∧ RD K O2 H e y ∧ eqB d e = some b ∧ Q (.bl b) H
def rNeP (K : Fg) : R2 := fun x y H Q => ∃ (O1 O2 : Pred) (d e : PyData) (b : Bool), RD K O1 H d x ∧ RD K O2 H e y ∧ eqB d e = some b ∧ Q (.bl (!b)) H
section
variable {X : Cx}
theorem intIff {a b : Int} : decide (V.int a = V.int b) = decide (a = b) := by
  rw [Bool.eq_iff_iff]; simp
theorem tup_is {pins : List (Addr × Obj)} {σ : L2.St} {H : Hp} {s : Shared} {O : Pred} {ds : List PyData} {x : V} {v : Value} (I : Inv X pins σ H s) (r : RD X.K O H (.tuple ds) x) (rx : RelV x v) : ∃ a its, v = .ref a ∧ s.heap.IsTuple a its ∧ its.size = ds.length := by
  simp only [RD] at r
  obtain ⟨a, vs, rfl, h1, h2⟩ := r
  cases rx
  have st : SqT X.K H a vs := h1.elim (fun z => SqT.of z.2) .inr
  obtain ⟨its, rv, ⟨o, e, c, k, d⟩, _⟩ := I.tuple st
  exact ⟨a, its.toArray, rfl, ⟨o, e, c, k, d⟩, by rw [List.size_toArray, ← rv.length, h2.length]⟩
theorem opr_eqP (hu : X.A.units + 64 < cLine) : OpR X (compareOp .Eq) (rEqP X.K) := by
  intro pins s σ H x y v u Q I rx ry h
  obtain ⟨O1, O2, d, e, b, r1, r2, hb, q⟩ := h
  unfold eqB at hb
  split at hb
  · cases hb
    exact op_eq pins s σ H x y v u Q I rx ry (by rw [rdS r1, rdS r2]; exact ⟨rfl, by rw [strIff]; exact q⟩)
  · cases hb
    exact op_eq pins s σ H x y v u Q I rx ry (by rw [rdI r1, rdI r2]; exact ⟨rfl, by rw [intIff]; exact q⟩)
  · rename_i ds
    cases hb
    obtain ⟨a, its, rfl, h1, n1⟩ := tup_is I r1 rx
    obtain ⟨c, its2, rfl, h2, n2⟩ := tup_is I r2 ry
    have n2' : its2.size = 0 := n2
    have key := PySem.SeqAt.RcAt.tuples (A := X.A) (e := fun _ => true) h1 h2 (by omega) fun j j1 j2 => by omega
    rw [n2', n1, Nat.min_zero] at key
    exact key X.prog X.w X.xe _ ⟨.bl _, H, I, rfl, q⟩
  · split at hb
    · rename_i c
      cases hb
      obtain ⟨as, w1⟩ := r1.reads I rx c.1
      obtain ⟨bs, w2⟩ := r2.reads I ry c.2.1
      exact SeqAt.eq_plain w1 w2 (plain_of d c.1) (plain_of e c.2.1) (by have := Nat.min_le_left d.depth e.depth; omega) ⟨.bl _, H, I, rfl, q⟩
    · cases hb
theorem opr_neP (hu : X.A.units + 64 < cLine) : OpR X (compareOp .NotEq) (rNeP X.K) := by
  intro pins s σ H x y v u Q I rx ry h
  obtain ⟨O1, O2, d, e, b, r1, r2, hb, q⟩ := h
  unfold eqB at hb
  split at hb
  · cases hb
    exact op_ne pins s σ H x y v u Q I rx ry (by rw [rdS r1, rdS r2]; exact ⟨rfl, by rw [strIff]; exact q⟩)
  · cases hb
    exact op_ne pins s σ H x y v u Q I rx ry (by rw [rdI r1, rdI r2]; exact ⟨rfl, by rw [intIff]; exact q⟩)
  · rename_i ds
    cases hb
    obtain ⟨a, its, rfl, h1, n1⟩ := tup_is I r1 rx
    obtain ⟨c, its2, rfl, h2, n2⟩ := tup_is I r2 ry
    have n2' : its2.size = 0 := n2
    have key := PySem.SeqAt.RcNeAt.tuples (A := X.A) (e := fun _ => true) h1 h2 (by omega) fun j j1 j2 => by omega
    rw [n2', n1, Nat.min_zero] at key
    exact key X.prog X.w X.xe _ ⟨.bl _, H, I, rfl, q⟩
  · split at hb
    · rename_i c
      cases hb
      obtain ⟨as, w1⟩ := r1.reads I rx c.1
      obtain ⟨bs, w2⟩ := r2.reads I ry c.2.1
      exact SeqAt.ne_plain w1 w2 (plain_of d c.1) (plain_of e c.2.1) (by have := Nat.min_le_left d.depth e.depth; omega) ⟨.bl _, H, I, rfl, q⟩
    · cases hb
end
theorem ops_eqP {K : Fg} : OpS K (rEqP K) (opF eqP) := ops_flat fun O1 O2 H x y d e z Q rx ry hz q => by
  unfold eqP at hz
  obtain ⟨b, hb, rfl⟩ := Option.map_eq_some_iff.mp hz
  exact ⟨O1, O2, d, e, b, rx, ry, hb, q _ toB⟩
theorem ops_neP {K : Fg} : OpS K (rNeP K) (opF neP) := ops_flat fun O1 O2 H x y d e z Q rx ry hz q => by
  unfold neP at hz
  obtain ⟨b, hb, rfl⟩ := Option.map_eq_some_iff.mp hz
  exact ⟨O1, O2, d, e, b, rx, ry, hb, q _ toB⟩
end Pu
namespace Pu
open PySem PySem.Spec PyProof.Rows L2
/-! ### repr of data with dicts within: keys are ints or texts, what they lead to is flat -/
mutual
def okDict : PyData → Bool
  | .list xs => okDictAll xs
  | .tuple xs => okDictAll xs
  | .dict kvs => kvs.all fun q => isKey q.1 && flat q.2
  | _ => true
def okDictAll : List PyData → Bool
  | [] => true
  | x :: xs => okDict x && okDictAll xs
end
section
variable {P : Program} {w : World} {K : Fg} {O : Pred} {H : Hp} {h : Heap}
theorem flat_rk {d : PyData} {v : V} {u : Value} (f : flat d = true) (r : RD K O H d v) (q : RelV v u) (hs : d.showable = true) (hz : d.shown.length ≤ sizeLine) : Reads h u d [] ∧ ∀ bs n, ReprK P w bs h n u d.shown := by
  cases d with
  | none => rw [rdN r] at q; cases q; exact ⟨.none, fun bs n => by simp only [PyData.shown]; exact .of_is ReprIs.none _ _ _⟩
  | bool b => rw [rdB r] at q; cases q; exact ⟨.bool b, fun bs n => by simp only [PyData.shown]; exact .of_is (ReprIs.bool b) _ _ _⟩
  | int i =>
    rw [rdI r] at q
    obtain ⟨t, rfl⟩ := q
    exact ⟨.int i t, fun bs n => by simp only [PyData.shown]; exact .of_is (ReprIs.int t (by simpa [PyData.showable] using hs)) _ _ _⟩
  | str i =>
    rw [rdS r] at q
    obtain ⟨t, rfl⟩ := q
    exact ⟨.str i t, fun bs n => by simp only [PyData.shown]; exact .of_is (ReprIs.str i t (by simpa only [PyData.shown] using hz)) _ _ _⟩
  | _ => cases f
theorem key_rk (K : Fg) (O : Pred) (H : Hp) {k : Key} {u : Value} (e : keyIs k u = true) (hs : (kD k).showable = true) (hz : (kD k).shown.length ≤ sizeLine) : Reads h u (kD k) [] ∧ ∀ bs n, ReprK P w bs h n u (kD k).shown := by
  rcases keyIs_shape e with ⟨i, t, rfl, rfl⟩ | ⟨x, t, rfl, rfl⟩
  · exact flat_rk (K := K) (O := O) (H := H) (d := .int i) rfl (toI O H) ⟨t, rfl⟩ hs hz
  · exact flat_rk (K := K) (O := O) (H := H) (d := .str x) rfl (toS O H) ⟨t, rfl⟩ hs hz
theorem entries_rk : ∀ {kvs : List (PyData × PyData)} {kv : List (Key × V)} {vs : List (Key × Value)} {es : List DictEntry}, kvs.map (·.1) = kv.map (fun q => kD q.1) → RDk K O H kvs (kv.map (·.2)) → KV kv vs → Pairs (mixKind P w) es vs →
    (∀ q ∈ kvs, flat q.2 = true ∧ q.1.showable = true ∧ q.2.showable = true ∧ q.1.shown.length ≤ sizeLine ∧ q.2.shown.length ≤ sizeLine) →
    ReadsAll h (es.map (·.key)) (kvs.map (·.1)) [] ∧ ReadsAll h (es.map (·.val)) (kvs.map (·.2)) [] ∧ ∀ bs n, ReprAllK P w bs h n (es.map (·.key)) (PyData.shownAll (kvs.map (·.1))) ∧ ReprAllK P w bs h n (es.map (·.val)) (PyData.shownAll (kvs.map (·.2)))
  | [], kv, vs, es, hk, rk, rel, ps, _ => by
    cases kv with
    | cons _ _ => simp at hk
    | nil =>
      cases rel
      cases ps
      exact ⟨.nil, .nil, fun bs n => ⟨.nil, .nil⟩⟩
  | (a, d) :: r, kv, vs, es, hk, rk, rel, ps, ok => by
    cases kv with
    | nil => simp at hk
    | cons g t =>
      simp only [List.map_cons, List.cons.injEq] at hk
      simp only [List.map_cons, RDk, List.cons.injEq] at rk
      obtain ⟨v, w2, ⟨rfl, rfl⟩, rd, rk⟩ := rk
      cases rel with
      | cons rel1 rel2 =>
        cases ps with
        | cons p1 p2 p3 =>
          obtain ⟨f, s1, s2, z1, z2⟩ := ok (a, d) (List.mem_cons_self ..)
          obtain ⟨i1, i2, i3⟩ := entries_rk hk.2 rk rel2 p3 fun q m => ok q (List.mem_cons_of_mem _ m)
          dsimp only at f s1 s2 z1 z2
          rw [hk.1] at s1 z1
          have k1 := key_rk (P := P) (w := w) K O H (h := h) (by rw [rel1.1]; exact p1) s1 z1
          have k2 := flat_rk (P := P) (w := w) (h := h) f rd (p2 ▸ rel1.2) s2 z2
          simp only [List.map_cons, PyData.shownAll, hk.1]
          exact ⟨.cons k1.1 i1, .cons k2.1 i2, fun bs n => ⟨.cons (k1.2 bs n) (i3 bs n).1, .cons (k2.2 bs n) (i3 bs n).2⟩⟩
end
theorem all_keys {kvs : List (PyData × PyData)} (h : (kvs.all fun q => isKey q.1 && flat q.2) = true) : kvs = [] ∨ isDk kvs = true := by
  cases kvs with
  | nil => exact .inl rfl
  | cons c r =>
    simp only [List.all_cons, Bool.and_eq_true] at h
    exact .inr h.1.1
theorem show_kv : ∀ {kvs : List (PyData × PyData)}, PyData.showableKv kvs = true → ∀ q ∈ kvs, q.1.showable = true ∧ q.2.showable = true
  | [], _, q, m => nomatch m
  | (a, b) :: r, h, q, m => by
    simp only [PyData.showableKv, Bool.and_eq_true] at h
    rcases List.mem_cons.mp m with rfl | m
    · exact h.1
    · exact show_kv h.2 q m
theorem len_kv : ∀ {kvs : List (PyData × PyData)}, (∀ t ∈ PyData.shownKv kvs, t.length ≤ sizeLine) → ∀ q ∈ kvs, q.1.shown.length ≤ sizeLine ∧ q.2.shown.length ≤ sizeLine
  | [], _, q, m => nomatch m
  | (a, b) :: r, h, q, m => by
    simp only [PyData.shownKv] at h
    rcases List.mem_cons.mp m with rfl | m
    · have := h _ (List.mem_cons_self ..)
      rw [strLen_append, strLen_append] at this
      exact ⟨by show a.shown.length ≤ _; omega, by show b.shown.length ≤ _; omega⟩
    · exact len_kv (fun t ht => h t (List.mem_cons_of_mem _ ht)) q m
/-- what is known of a dict's object -/
theorem dict_rk {X : Cx} {pins : List (Addr × Obj)} {σ : L2.St} {H : Hp} {s : Shared} {O : Pred} {kvs : List (PyData × PyData)} {v : V} {u : Value} (I : Inv X pins σ H s) (r : RD X.K O H (.dict kvs) v) (q : RelV v u) (ok : (kvs.all fun q => isKey q.1 && flat q.2) = true)
    (hs : PyData.showableKv kvs = true) (hz : (dictText (PyData.shownKv kvs)).length ≤ sizeLine) :
    ∃ a o es n, u = .ref a ∧ s.heap.get? a = some o ∧ o.cls = .type "dict" ∧ o.data = .dict es n ∧ (a == sysModules) = false ∧ ReadsAll s.heap (es.toList.map (·.key)) (kvs.map (·.1)) [] ∧ ReadsAll s.heap (es.toList.map (·.val)) (kvs.map (·.2)) [] ∧
      ∀ bs n, ReprAllK X.prog X.w bs s.heap n (es.toList.map (·.key)) (PyData.shownAll (kvs.map (·.1))) ∧ ReprAllK X.prog X.w bs s.heap n (es.toList.map (·.val)) (PyData.shownAll (kvs.map (·.2))) := by
  have hl := len_kv (kvs := kvs) fun t ht => Nat.le_trans (dictText_mem_le ht) hz
  have hw := show_kv hs
  rcases all_keys ok with rfl | dk
  · simp only [RD] at r
    obtain ⟨a, rfl, _, r⟩ := r
    cases q
    rcases r with ⟨kv, ha, ek, rk⟩ | ⟨kv, ha, ek, rk⟩
    · cases kv with
      | cons _ _ => simp at ek
      | nil =>
        obtain ⟨_, hsys, vs, rel, o, es, ep, h1, h2, h3, h4, h5, h6⟩ := dk_rd I.hok (.inl ha)
        cases rel
        have : es.toList = [] := by
          cases e : es.toList with
          | nil => rfl
          | cons _ _ => rw [e] at h5; cases h5
        exact ⟨a, o, es, ep, rfl, h1, h2.1, h3, hsys, by rw [this]; exact .nil, by rw [this]; exact .nil, fun bs n => by rw [this]; exact ⟨.nil, .nil⟩⟩
    · cases kv with
      | cons _ _ => simp at ek
      | nil =>
        obtain ⟨_, hsys, xs, rel, o, es, ep, h1, h2, h3, h4, h5⟩ := (show ObjOk X.prog X.w H s.heap a (.dT []) from I.hok a _ ha)
        cases rel
        have : es.toList = [] := h4
        exact ⟨a, o, es, ep, rfl, h1, h2.1, h3, hsys, by rw [this]; exact .nil, by rw [this]; exact .nil, fun bs n => by rw [this]; exact ⟨.nil, .nil⟩⟩
  · obtain ⟨a, rfl, _, kv, ha, ek, rk⟩ := dict_dk dk r
    cases q
    obtain ⟨_, hsys, vs, rel, o, es, ep, h1, h2, h3, h4, h5, h6⟩ := dk_rd I.hok (.inl ha)
    obtain ⟨i1, i2, i3⟩ := entries_rk (P := X.prog) (w := X.w) (h := s.heap) ek rk rel h5 fun q m => by
      have := List.all_eq_true.mp ok q m
      simp only [Bool.and_eq_true] at this
      exact ⟨this.2, (hw q m).1, (hw q m).2, (hl q m).1, (hl q m).2⟩
    exact ⟨a, o, es, ep, rfl, h1, h2.1, h3, hsys, i1, i2, i3⟩
section
variable {X : Cx} {pins : List (Addr × Obj)} {σ : L2.St} {H : Hp} {s : Shared} {O : Pred}
theorem most_kv {h : Heap} {n : Nat} {bs cs : List Addr} {m : Nat} (a : ReadAtMost h n bs) (b : ReadAtMost h m cs) : ReadAtMost h (max n m) (bs ++ cs) := fun x hx =>
  (List.mem_append.mp hx).elim (fun z => let ⟨d, as, r, l⟩ := a x z; ⟨d, as, r, Nat.le_trans l (Nat.le_max_left ..)⟩) fun z => let ⟨d, as, r, l⟩ := b x z; ⟨d, as, r, Nat.le_trans l (Nat.le_max_right ..)⟩
/-- the list's object, its items' repr -/
structure LsK (X : Cx) (s : Shared) (T : String) (ds : List PyData) (u : Value) : Prop where
  ex : ∃ (a : Addr) (o : Obj) (its : List Value) (n : Nat) (as bs : List Addr), u = .ref a ∧ s.heap.get? a = some o ∧ o.cls = .type T ∧ o.data = .seq its.toArray n ∧ ReadsAll s.heap its ds as ∧ ReadAtMost s.heap (PyData.depthAll ds) bs ∧ ReprAllK X.prog X.w bs s.heap (PyData.depthAll ds) its (PyData.shownAll ds)
mutual
theorem RD.rk (I : Inv X pins σ H s) : ∀ {d : PyData} {v : V} {u : Value}, RD X.K O H d v → RelV v u → okDict d = true → d.showable = true → d.shown.length ≤ sizeLine →
    ∃ as bs, Reads s.heap u d as ∧ ReadAtMost s.heap d.depth bs ∧ ReprK X.prog X.w bs s.heap d.depth u d.shown
  | .none, _, _, r, q, _, hs, hz => let k := flat_rk (P := X.prog) (w := X.w) rfl r q hs hz; ⟨[], [], k.1, (fun _ m => nomatch m), k.2 _ _⟩
  | .bool _, _, _, r, q, _, hs, hz => let k := flat_rk (P := X.prog) (w := X.w) rfl r q hs hz; ⟨[], [], k.1, (fun _ m => nomatch m), k.2 _ _⟩
  | .int _, _, _, r, q, _, hs, hz => let k := flat_rk (P := X.prog) (w := X.w) rfl r q hs hz; ⟨[], [], k.1, (fun _ m => nomatch m), k.2 _ _⟩
  | .str _, _, _, r, q, _, hs, hz => let k := flat_rk (P := X.prog) (w := X.w) rfl r q hs hz; ⟨[], [], k.1, (fun _ m => nomatch m), k.2 _ _⟩
  | .list ds, v, u, r, q, ok, hs, hz => by
    have hz' : (listText (PyData.shownAll ds)).length ≤ sizeLine := by simpa only [PyData.shown] using hz
    obtain ⟨a, vs, rfl, h1, h2⟩ := rdL r
    cases q
    obtain ⟨its, rv, ⟨o, k, e, c, _, dd⟩, _⟩ := I.list h1
    obtain ⟨as, bs, w1, w2, w3⟩ := RDs.rk I h2 rv (by simpa only [okDict] using ok) (by simpa only [PyData.showable] using hs) fun t ht => Nat.le_trans (listText_mem_le ht) hz'
    have rr : Reads s.heap (.ref a) (.list ds) _ := Reads.list e c dd (by simpa using w1)
    have na : a ∉ bs := not_mem_of_deeper rr (by simp only [PyData.depth]; omega) w2
    refine ⟨_, a :: bs, rr, ReadAtMost.cons rr (by simp only [PyData.depth]; omega) w2, ?_⟩
    simp only [PyData.depth, PyData.shown]
    cases its with
    | nil =>
      cases w1
      simp only [PyData.shownAll, listText_nil]
      exact .listEmpty e c dd
    | cons i1 i2 => exact .list e c dd na (by simpa using w3.length_eq) fun j y ej => w3.item j y (by simpa using ej)
  | .tuple ds, v, u, r, q, ok, hs, hz => by
    have hz' : (tupleText (PyData.shownAll ds)).length ≤ sizeLine := by simpa only [PyData.shown] using hz
    simp only [RD] at r
    obtain ⟨a, vs, rfl, h1, h2⟩ := r
    cases q
    have st : SqT X.K H a vs := h1.elim (fun z => SqT.of z.2) .inr
    obtain ⟨its, rv, ⟨o, e, c, k, dd⟩, _⟩ := I.tuple st
    obtain ⟨as, bs, w1, w2, w3⟩ := RDs.rk I h2 rv (by simpa only [okDict] using ok) (by simpa only [PyData.showable] using hs) fun t ht => Nat.le_trans (tupleText_mem_le ht) hz'
    have rr : Reads s.heap (.ref a) (.tuple ds) _ := Reads.tuple e c dd (by simpa using w1)
    have na : a ∉ bs := not_mem_of_deeper rr (by simp only [PyData.depth]; omega) w2
    refine ⟨_, a :: bs, rr, ReadAtMost.cons rr (by simp only [PyData.depth]; omega) w2, ?_⟩
    simp only [PyData.depth, PyData.shown]
    exact .tuple e c dd na (by simpa using w3)
  | .dict kvs, v, u, r, q, ok, hs, hz => by
    have hz' : (dictText (PyData.shownKv kvs)).length ≤ sizeLine := by simpa only [PyData.shown] using hz
    obtain ⟨a, o, es, n, rfl, e, c, dd, hsys, w1, w2, w3⟩ := dict_rk I r q (by simpa only [okDict] using ok) (by simpa only [PyData.showable] using hs) hz'
    have rr : Reads s.heap (.ref a) (.dict kvs) _ := Reads.dict e c dd w1 w2
    refine ⟨_, [a], rr, ReadAtMost.cons (n := 0) rr (Nat.zero_le _) (fun _ m => nomatch m), ?_⟩
    simp only [PyData.depth, PyData.shown, PyData.shownKv_eq]
    exact .dict e c dd hsys (fun m => nomatch m) (ReprEntriesK.of_two es.toList _ _ (w3 [] _).1 (w3 [] _).2)
theorem RDs.rk (I : Inv X pins σ H s) : ∀ {ds : List PyData} {vs : List V} {us : List Value}, RDs X.K O H ds vs → Vals vs us → okDictAll ds = true → PyData.showableAll ds = true → (∀ t ∈ PyData.shownAll ds, t.length ≤ sizeLine) →
    ∃ as bs, ReadsAll s.heap us ds as ∧ ReadAtMost s.heap (PyData.depthAll ds) bs ∧ ReprAllK X.prog X.w bs s.heap (PyData.depthAll ds) us (PyData.shownAll ds)
  | [], _, _, r, q, _, _, _ => by
    simp only [RDs] at r
    subst r
    cases q
    exact ⟨[], [], .nil, (fun _ m => nomatch m), by simp only [PyData.shownAll]; exact .nil⟩
  | d :: ds, _, _, r, q, ok, hs, hz => by
    simp only [RDs] at r
    obtain ⟨v, t, rfl, h, h2⟩ := r
    simp only [okDictAll, Bool.and_eq_true] at ok
    simp only [PyData.showableAll, Bool.and_eq_true] at hs
    simp only [PyData.shownAll] at hz
    cases q with
    | cons q1 q2 =>
      obtain ⟨as, bs, w1, w2, w3⟩ := RD.rk I h q1 ok.1 hs.1 (hz _ (List.mem_cons_self ..))
      obtain ⟨as', bs', w1', w2', w3'⟩ := RDs.rk I h2 q2 ok.2 hs.2 fun t ht => hz t (List.mem_cons_of_mem _ ht)
      refine ⟨_, bs ++ bs', .cons w1 w1', by simp only [PyData.depthAll]; exact most_kv w2 w2', ?_⟩
      simp only [PyData.depthAll, PyData.shownAll]
      exact .cons ((w3.more fun b m => List.mem_append_left _ m).level_le (Nat.le_max_left ..)) (w3'.more_le (fun b m => List.mem_append_right _ m) (Nat.le_max_right ..))
end
end
end Pu
namespace Pu
open PySem PySem.Spec PyProof.Rows L2
def reprOk2 (d : PyData) : Prop := okDict d = true ∧ d.showable = true ∧ d.depth ≤ 60 ∧ d.shown.length ≤ sizeLine
instance (d : PyData) : Decidable (reprOk2 d) := by unfold reprOk2; infer_instance
def rRepr2 (K : Fg) : List V → Hp → VK → Prop := fun xs H Q => ∃ (O : Pred) (d : PyData) (v : V), xs = [v] ∧ RD K O H d v ∧ reprOk2 d ∧ Q (.str d.shown) H
theorem call_repr2 {X : Cx} {k : Nat} (hgd : X.A.guards = some []) (hr : Room k X.A) : CallR X (.builtin "repr") (rRepr2 X.K) := by
  intro pins s σ H xs us Q I rs h
  obtain ⟨O, d, v, rfl, rd, ⟨h1, h2, h3, h4⟩, q⟩ := h
  obtain ⟨u, rfl, r⟩ := vals1 rs
  have hu := hr.un
  have fin : ∀ (h' : Heap) (t : Tok) (tk : Nat), (∀ b o, s.heap.get? b = some o → h'.get? b = some o) → ∃ x t', Value.str d.shown t = .str x t' ∧ EP X pins σ Q (.str d.shown t) { s with heap := h', toks := tk } :=
    fun h' t tk kk => ⟨_, _, rfl, .str _, H, I.kept kk, ⟨_, rfl⟩, q⟩
  cases d with
  | none => rw [rdN rd] at r; cases r; exact P.repr_of_none ⟨.str _, H, I.tok _, ⟨_, rfl⟩, q⟩
  | bool b => rw [rdB rd] at r; cases r; exact P.repr_of_bool ⟨.str _, H, I.tok _, ⟨_, rfl⟩, by cases b <;> exact q⟩
  | int i =>
    rw [rdI rd] at r
    obtain ⟨t, rfl⟩ := r
    exact P.repr_of_int (by simpa [PyData.showable] using h2) ⟨.str _, H, I.tok _, ⟨_, rfl⟩, q⟩
  | str x =>
    rw [rdS rd] at r
    obtain ⟨t, rfl⟩ := r
    exact P.repr_of_str ⟨.str _, H, I.tok _, ⟨_, rfl⟩, q⟩ h4
  | list ds =>
    have hz' : (listText (PyData.shownAll ds)).length ≤ sizeLine := by simpa only [PyData.shown] using h4
    obtain ⟨a, vs, rfl, l1, l2⟩ := rdL rd
    cases r
    obtain ⟨its, rv, ⟨o, n, e, c, _, dd⟩, _⟩ := I.list l1
    obtain ⟨as, bs, w1, w2, w3⟩ := RDs.rk I l2 rv (by simpa only [okDict] using h1) (by simpa only [PyData.showable] using h2) fun t ht => Nat.le_trans (listText_mem_le ht) hz'
    have na : a ∉ bs := not_mem_of_deeper (Reads.list e c dd (by simpa using w1) : Reads s.heap (.ref a) (.list ds) _) (by simp only [PyData.depth]; omega) w2
    simp only [PyData.depth] at h3
    simp only [PyData.shown] at fin
    refine call_repr_slot (T := "list") (idr := "list.__repr__") (by omega) ⟨o, e, c⟩ PySem.F.slot_list_repr.toG ?_
    cases its with
    | nil =>
      cases w1
      simp only [PyData.shownAll, listText_nil] at fin
      exact call_list_repr_empty ⟨o, e, c⟩ e dd (fin s.heap _ _ fun _ _ z => z)
    | cons i1 i2 =>
      exact call_list_reprK e c dd na (by simpa using w3.length_eq) (fun j y ej => w3.item j y (by simpa using ej)) hgd (fun b _ => Clear.nil b) (by show X.A.units + 1 + _ < _; omega) (fun _ _ z => z) (fun h' t tk kk => fin h' t tk kk) hz'
  | tuple ds =>
    have hz' : (tupleText (PyData.shownAll ds)).length ≤ sizeLine := by simpa only [PyData.shown] using h4
    simp only [RD] at rd
    obtain ⟨a, vs, rfl, l1, l2⟩ := rd
    cases r
    have st : SqT X.K H a vs := l1.elim (fun z => SqT.of z.2) .inr
    obtain ⟨its, rv, ⟨o, e, c, n, dd⟩, _⟩ := I.tuple st
    obtain ⟨as, bs, w1, w2, w3⟩ := RDs.rk I l2 rv (by simpa only [okDict] using h1) (by simpa only [PyData.showable] using h2) fun t ht => Nat.le_trans (tupleText_mem_le ht) hz'
    have na : a ∉ bs := not_mem_of_deeper (Reads.tuple e c dd (by simpa using w1) : Reads s.heap (.ref a) (.tuple ds) _) (by simp only [PyData.depth]; omega) w2
    simp only [PyData.depth] at h3
    simp only [PyData.shown] at fin
    refine call_repr_slot (T := "tuple") (idr := "tuple.__repr__") (by omega) ⟨o, e, c⟩ PySem.F.slot_tuple_repr ?_
    exact call_tuple_reprK e c dd na (by simpa using w3) hgd (fun b _ => Clear.nil b) (by show X.A.units + 1 + _ < _; omega) (fun _ _ z => z) (fun h' t tk kk => fin h' t tk kk) hz'
  | dict kvs =>
    have hz' : (dictText (PyData.shownKv kvs)).length ≤ sizeLine := by simpa only [PyData.shown] using h4
    obtain ⟨a, o, es, n, rfl, e, c, dd, hsys, w1, w2, w3⟩ := dict_rk I rd r (by simpa only [okDict] using h1) (by simpa only [PyData.showable] using h2) hz'
    simp only [PyData.depth] at h3
    simp only [PyData.shown, PyData.shownKv_eq] at fin hz'
    refine call_repr_slot (T := "dict") (idr := "dict.__repr__") (by omega) ⟨o, e, c⟩ PySem.F.slot_dict_repr ?_
    exact call_dict_reprK (as := []) (d := 0) e c dd hsys (fun m => nomatch m) (ReprEntriesK.of_two es.toList _ _ (w3 [] _).1 (w3 [] _).2) hgd (fun b _ => Clear.nil b) (by show X.A.units + 1 + _ < _; omega) (fun _ _ z => z) (fun h' t tk kk => fin h' t tk kk) hz'
def repr2K : List PyData → Option PyData
  | [d] => if reprOk2 d then some (.str d.shown) else none
  | _ => none
theorem cs_repr2 {K : Fg} : CallS K (rRepr2 K) (cF repr2K) := cs_flat fun O1 H vs ds z Q r hz q => by
  unfold repr2K at hz
  split at hz
  · rename_i d
    split at hz
    · rename_i ok
      cases hz
      obtain ⟨v, rfl, h⟩ := rds1 r
      exact ⟨O1, d, v, rfl, h, ok, q _ toS⟩
    · cases hz
  · cases hz
end Pu
namespace Pu
open PySem PySem.Spec PyProof.Rows L2
/-! ### max, min of a tuple of ints -/
def rMaxT (K : Fg) : List V → Hp → VK → Prop := fun xs H Q => ∃ (O : Pred) (n : Int) (ns : List Int) (v : V), xs = [v] ∧ RD K O H (.tuple ((n :: ns).map .int)) v ∧ Q (.int (ns.foldl max n)) H
def rMinT (K : Fg) : List V → Hp → VK → Prop := fun xs H Q => ∃ (O : Pred) (n : Int) (ns : List Int) (v : V), xs = [v] ∧ RD K O H (.tuple ((n :: ns).map .int)) v ∧ Q (.int (ns.foldl min n)) H
theorem alike_ints (ns : List Int) : PySem.W.AlikeAll (ns.map PyData.int) := by
  refine ⟨fun x hx y hy => ?_, fun x hx => ?_⟩
  · obtain ⟨i, _, rfl⟩ := List.mem_map.mp hx
    obtain ⟨j, _, rfl⟩ := List.mem_map.mp hy
    rfl
  · obtain ⟨i, _, rfl⟩ := List.mem_map.mp hx
    exact fun z => nomatch z
theorem ints_noDict : ∀ ns : List Int, PyData.hasDictAll (ns.map .int) = false
  | [] => rfl
  | n :: ns => by
    have := ints_noDict ns
    simp only [List.map_cons, PyData.hasDictAll, PyData.hasDict, this, Bool.or_self]
theorem ints_depth : ∀ ns : List Int, PyData.depthAll (ns.map .int) = 0
  | [] => rfl
  | n :: ns => by
    have := ints_depth ns
    simp only [List.map_cons, PyData.depthAll, PyData.depth, this]
    rfl
theorem call_maxT {X : Cx} (hc : X.calm = true) (hu : X.A.units + 64 < cLine) : CallR X (.builtin "max") (rMaxT X.K) := by
  intro pins s σ H xs us Q I rs h
  obtain ⟨O, n, ns, v, rfl, rd, q⟩ := h
  obtain ⟨u, rfl, r⟩ := vals1 rs
  simp only [RD] at rd
  obtain ⟨a, vs, rfl, l1, l2⟩ := rd
  cases r
  have st : SqT X.K H a vs := l1.elim (fun z => SqT.of z.2) .inr
  obtain ⟨its, rv, ht, _⟩ := I.tuple st
  have nd : PyData.hasDictAll ((n :: ns).map .int) = false := ints_noDict (n :: ns)
  obtain ⟨as, w⟩ := RDs.reads I l2 rv nd
  obtain ⟨o, e, c, k, dd⟩ := ht
  refine PySem.W.max_tuple_data (x := .int n) (xs := ns.map .int) (as := as) (I.ok.hd hc) ⟨o, e, c, k, dd⟩ (by simpa using w) (alike_ints (n :: ns)) (by have := ints_depth (n :: ns); rw [List.map_cons] at this; omega) fun i z h' tk bs _ rz kk => ?_
  rw [PySem.W.maxD_ints] at rz
  cases rz
  exact ⟨.int _, H, I.kept kk, ⟨_, rfl⟩, q⟩
theorem call_minT {X : Cx} (hc : X.calm = true) (hu : X.A.units + 64 < cLine) : CallR X (.builtin "min") (rMinT X.K) := by
  intro pins s σ H xs us Q I rs h
  obtain ⟨O, n, ns, v, rfl, rd, q⟩ := h
  obtain ⟨u, rfl, r⟩ := vals1 rs
  simp only [RD] at rd
  obtain ⟨a, vs, rfl, l1, l2⟩ := rd
  cases r
  have st : SqT X.K H a vs := l1.elim (fun z => SqT.of z.2) .inr
  obtain ⟨its, rv, ht, _⟩ := I.tuple st
  have nd : PyData.hasDictAll ((n :: ns).map .int) = false := ints_noDict (n :: ns)
  obtain ⟨as, w⟩ := RDs.reads I l2 rv nd
  obtain ⟨o, e, c, k, dd⟩ := ht
  refine PySem.W.min_tuple_data (x := .int n) (xs := ns.map .int) (as := as) (I.ok.hd hc) ⟨o, e, c, k, dd⟩ (by simpa using w) (alike_ints (n :: ns)) (by have := ints_depth (n :: ns); rw [List.map_cons] at this; omega) fun i z h' tk bs _ rz kk => ?_
  rw [PySem.W.minD_ints] at rz
  cases rz
  exact ⟨.int _, H, I.kept kk, ⟨_, rfl⟩, q⟩
/-- of a list or a tuple -/
def rMax1 (K : Fg) : List V → Hp → VK → Prop := fun xs H Q => rMax K xs H Q ∨ rMaxT K xs H Q
def rMin1 (K : Fg) : List V → Hp → VK → Prop := fun xs H Q => rMin K xs H Q ∨ rMinT K xs H Q
theorem call_max1 {X : Cx} (hc : X.calm = true) (hu : X.A.units + 64 < cLine) : CallR X (.builtin "max") (rMax1 X.K) := (cr_max hc).or (call_maxT hc hu)
theorem call_min1 {X : Cx} (hc : X.calm = true) (hu : X.A.units + 64 < cLine) : CallR X (.builtin "min") (rMin1 X.K) := (cr_min hc).or (call_minT hc hu)
def max1K : List PyData → Option PyData
  | [.tuple ds] => (match intsOf ds with
    | some (n :: ns) => some (.int (ns.foldl max n))
    | _ => none)
  | xs => maxLK xs
def min1K : List PyData → Option PyData
  | [.tuple ds] => (match intsOf ds with
    | some (n :: ns) => some (.int (ns.foldl min n))
    | _ => none)
  | xs => minLK xs
theorem cs_max1 {K : Fg} : CallS K (rMax1 K) (cF max1K) := cs_flat fun O1 H vs ds z Q r hz q => by
  unfold max1K at hz
  split at hz
  · rename_i es
    split at hz
    · rename_i n ns h1
      cases hz
      obtain ⟨v, rfl, h⟩ := rds1 r
      rw [of_intsOf h1] at h
      exact .inr ⟨O1, n, ns, v, rfl, h, q _ toI⟩
    · cases hz
  · refine .inl ?_
    unfold maxLK at hz
    split at hz
    · rename_i es
      split at hz
      · rename_i n ns h1
        cases hz
        obtain ⟨v, rfl, h⟩ := rds1 r
        obtain ⟨a, us, rfl, h2, h3⟩ := rdL h
        rw [of_intsOf h1] at h3
        rw [RDs.of_ints h3] at h2
        refine ⟨a, n :: ns, rfl, h2, by simp, fun m hm hle => ?_⟩
        rw [← fold_max ns n m hm hle]
        exact q _ toI
      · cases hz
    · cases hz
theorem cs_min1 {K : Fg} : CallS K (rMin1 K) (cF min1K) := cs_flat fun O1 H vs ds z Q r hz q => by
  unfold min1K at hz
  split at hz
  · rename_i es
    split at hz
    · rename_i n ns h1
      cases hz
      obtain ⟨v, rfl, h⟩ := rds1 r
      rw [of_intsOf h1] at h
      exact .inr ⟨O1, n, ns, v, rfl, h, q _ toI⟩
    · cases hz
  · refine .inl ?_
    unfold minLK at hz
    split at hz
    · rename_i es
      split at hz
      · rename_i n ns h1
        cases hz
        obtain ⟨v, rfl, h⟩ := rds1 r
        obtain ⟨a, us, rfl, h2, h3⟩ := rdL h
        rw [of_intsOf h1] at h3
        rw [RDs.of_ints h3] at h2
        refine ⟨a, n :: ns, rfl, h2, by simp, fun m hm hle => ?_⟩
        rw [← fold_min ns n m hm hle]
        exact q _ toI
      · cases hz
    · cases hz
end Pu
namespace Pu
open PySem PySem.Spec PyProof.Rows L2
/-! ### sorted -/
section
variable {α : Type} (f : α → Int)
def insK (x : α) : List α → List α
  | [] => [x]
  | y :: r => if f x ≤ f y then x :: y :: r else y :: insK x r
def sortK : List α → List α
  | [] => []
  | x :: r => insK f x (sortK r)
theorem insK_perm (x : α) : ∀ l : List α, (insK f x l).Perm (x :: l)
  | [] => .refl _
  | y :: r => by
    unfold insK
    split
    · exact .refl _
    · exact ((insK_perm x r).cons y).trans (.swap x y r)
theorem sortK_perm : ∀ l : List α, (sortK f l).Perm l
  | [] => .refl _
  | x :: r => (insK_perm f x (sortK f r)).trans ((sortK_perm r).cons x)
theorem insK_pw (x : α) : ∀ l : List α, l.Pairwise (fun a b => f a ≤ f b) → (insK f x l).Pairwise fun a b => f a ≤ f b
  | [], _ => List.pairwise_singleton _ _
  | y :: r, h => by
    unfold insK
    have h' := List.pairwise_cons.mp h
    split
    · rename_i c
      refine List.pairwise_cons.mpr ⟨fun z hz => ?_, h⟩
      rcases List.mem_cons.mp hz with rfl | hz
      · exact c
      · exact Int.le_trans c (h'.1 z hz)
    · rename_i c
      refine List.pairwise_cons.mpr ⟨fun z hz => ?_, insK_pw x r h'.2⟩
      rcases List.mem_cons.mp ((insK_perm f x r).mem_iff.mp hz) with rfl | hz
      · omega
      · exact h'.1 z hz
theorem sortK_pw : ∀ l : List α, (sortK f l).Pairwise fun a b => f a ≤ f b
  | [] => .nil
  | x :: r => insK_pw f x _ (sortK_pw r)
theorem sorted_uniq : ∀ {a b : List α}, a.Perm b → a.Pairwise (fun x y => f x ≤ f y) → b.Pairwise (fun x y => f x ≤ f y) → (∀ x ∈ a, ∀ y ∈ a, f x = f y → x = y) → a = b
  | [], b, p, _, _, _ => p.nil_eq
  | x :: r, [], p, _, _, _ => by have := p.length_eq; simp at this
  | x :: r, y :: t, p, h1, h2, inj => by
    have p1 := List.pairwise_cons.mp h1
    have p2 := List.pairwise_cons.mp h2
    have hy : y ∈ x :: r := p.mem_iff.mpr (List.mem_cons_self ..)
    have hx : x ∈ y :: t := p.mem_iff.mp (List.mem_cons_self ..)
    have e1 : f x ≤ f y := by
      rcases List.mem_cons.mp hy with rfl | hy
      · exact Int.le_refl _
      · exact p1.1 y hy
    have e2 : f y ≤ f x := by
      rcases List.mem_cons.mp hx with rfl | hx
      · exact Int.le_refl _
      · exact p2.1 x hx
    have e : x = y := inj x (List.mem_cons_self ..) y hy (Int.le_antisymm e1 e2)
    subst e
    rw [sorted_uniq p.cons_inv p1.2 p2.2 fun a ha b hb => inj a (List.mem_cons_of_mem _ ha) b (List.mem_cons_of_mem _ hb)]
end
theorem code_inj {B : Int} : ∀ {a b : List Int}, a.length = b.length → TS.Bd B a → TS.Bd B b → TS.code B a = TS.code B b → a = b
  | [], [], _, _, _, _ => rfl
  | [], _ :: _, h, _, _, _ => by simp at h
  | _ :: _, [], h, _, _, _ => by simp at h
  | d :: r, e :: q, h, h1, h2, hc => by
    have hl : r.length = q.length := by simpa using h
    have b1 : TS.Bd B r := fun m hm => h1 m (List.mem_cons_of_mem _ hm)
    have b2 : TS.Bd B q := fun m hm => h2 m (List.mem_cons_of_mem _ hm)
    have n1 : ¬ d < e := fun z => by have := TS.code_lt hl b1 b2 z; omega
    have n2 : ¬ e < d := fun z => by have := TS.code_lt hl.symm b2 b1 z; omega
    have de : d = e := by omega
    subst de
    have m1 : ¬ TS.code B r < TS.code B q := fun z => by have := (TS.code_same (d := d) hl).mpr z; omega
    have m2 : ¬ TS.code B q < TS.code B r := fun z => by have := (TS.code_same (d := d) hl.symm).mpr z; omega
    rw [code_inj hl b1 b2 (by omega)]
theorem RDs.perm {K : Fg} {O : Pred} {H : Hp} {xs ys : List V} (p : ys.Perm xs) : ∀ {ds : List PyData}, RDs K O H ds xs → ∃ ds', ds'.Perm ds ∧ RDs K O H ds' ys := by
  induction p with
  | nil => exact fun {ds} r => ⟨ds, .refl _, r⟩
  | cons a _ ih =>
    intro ds r
    cases ds with
    | nil => simp only [RDs] at r; cases r
    | cons d ds =>
      simp only [RDs] at r
      obtain ⟨v, t, e, h, h2⟩ := r
      cases e
      obtain ⟨ds', p', r'⟩ := ih h2
      exact ⟨d :: ds', p'.cons d, .cons h r'⟩
  | swap a b l =>
    intro ds r
    match ds, r with
    | [], r => simp only [RDs] at r; cases r
    | [d], r => simp only [RDs] at r; obtain ⟨v, t, e, h, h2⟩ := r; cases e; cases h2
    | d :: e :: ds, r =>
      simp only [RDs] at r
      obtain ⟨v, t, e1, h, v2, t2, e2, h2, h3⟩ := r
      cases e1
      cases e2
      exact ⟨e :: d :: ds, .swap d e ds, .cons h2 (.cons h h3)⟩
  | trans _ _ ih1 ih2 =>
    intro ds r
    obtain ⟨d1, p1, r1⟩ := ih2 r
    obtain ⟨d2, p2, r2⟩ := ih1 r1
    exact ⟨d2, p2.trans p1, r2⟩
def tupD (ns : List Int) : PyData := .tuple (ns.map .int)
def tupsOf : List PyData → Option (List (List Int))
  | [] => some []
  | .tuple xs :: r => (match intsOf xs, tupsOf r with
    | some ns, some nss => some (ns :: nss)
    | _, _ => none)
  | _ => none
theorem of_tupsOf : ∀ {ds : List PyData} {nss : List (List Int)}, tupsOf ds = some nss → ds = nss.map tupD
  | [], _, h => by cases h; rfl
  | .tuple xs :: r, nss, h => by
    unfold tupsOf at h
    split at h
    · rename_i ns ms e1 e2
      cases h
      rw [List.map_cons, ← of_tupsOf e2, of_intsOf e1]
      rfl
    · cases h
  | .none :: _, _, h => by cases h
  | .bool _ :: _, _, h => by cases h
  | .int _ :: _, _, h => by cases h
  | .str _ :: _, _, h => by cases h
  | .list _ :: _, _, h => by cases h
  | .dict _ :: _, _, h => by cases h
end Pu
namespace Pu
open PySem PySem.Spec PyProof.Rows L2
def sortB : Int := 1099511627776
/-- sorted of a list of ints, or of few tuples of as many small numbers -/
def sortedV : List Val → Option Val
  | [x] => (match x.dat, x.items with
    | some (.list _, _), some (ds, c) => (match intsOf ds with
      | some ns => some (.fr (.list ((sortK (fun i => i) ns).map .int)))
      | none => (match tupsOf ds with
        | some (ns :: nss) => if 1 ≤ ns.length ∧ nss.length < 63 ∧ (∀ m ∈ ns :: nss, m.length = ns.length ∧ ∀ i ∈ m, 0 ≤ i ∧ i < sortB) then some (newL c ((sortK (TS.code sortB) (ns :: nss)).map tupD)) else none
        | _ => none))
    | _, _ => none)
  | _ => none
def rSorted1 (K : Fg) : List V → Hp → VK → Prop := fun xs H Q => rSortedI K xs H Q ∨ ∃ d, 1 ≤ d ∧ rSortU K d sortB xs H Q
theorem call_sorted1 {X : Cx} : CallR X (.builtin "sorted") (rSorted1 X.K) := by
  intro pins s σ H xs us Q I rs h
  rcases h with h | ⟨d, hd, h⟩
  · exact cr_sortedI pins s σ H xs us Q I rs h
  · exact cr_sortT hd pins s σ H xs us Q I rs h
theorem tupI_of {K : Fg} {O : Pred} {H : Hp} {ns : List Int} {v : V} (r : RD K O H (tupD ns) v) : TupI K H v ns := by
  unfold tupD at r
  simp only [RD] at r
  obtain ⟨a, vs, rfl, h1, h2⟩ := r
  have e := RDs.of_ints h2
  subst e
  exact ⟨a, rfl, h1.elim (fun z => SqT.of z.2) .inr⟩
theorem mem_rds {K : Fg} {O : Pred} {H : Hp} : ∀ {mss : List (List Int)} {ys : List V}, RDs K O H (mss.map tupD) ys → ∀ m ∈ mss, ∃ y ∈ ys, TupI K H y m
  | [], _, _, m, h => nomatch h
  | a :: mss, ys, r, m, h => by
    rw [List.map_cons] at r
    simp only [RDs] at r
    obtain ⟨v, t, rfl, r1, r2⟩ := r
    rcases List.mem_cons.mp h with rfl | h
    · exact ⟨v, List.mem_cons_self .., tupI_of r1⟩
    · obtain ⟨y, hy, q⟩ := mem_rds r2 m h
      exact ⟨y, List.mem_cons_of_mem _ hy, q⟩
theorem pw_rds {K : Fg} {O : Pred} {H : Hp} {B : Int} : ∀ {mss : List (List Int)} {ys : List V}, RDs K O H (mss.map tupD) ys → ys.Pairwise (fun x y => ∀ n m, TupI K H x n → TupI K H y m → TS.code B n ≤ TS.code B m) → mss.Pairwise fun a b => TS.code B a ≤ TS.code B b
  | [], _, _, _ => .nil
  | a :: mss, ys, r, h => by
    rw [List.map_cons] at r
    simp only [RDs] at r
    obtain ⟨v, t, rfl, r1, r2⟩ := r
    have h' := List.pairwise_cons.mp h
    refine List.pairwise_cons.mpr ⟨fun m hm => ?_, pw_rds r2 h'.2⟩
    obtain ⟨y, hy, q⟩ := mem_rds r2 m hm
    exact h'.1 y hy a m (tupI_of r1) q
theorem rds_mem {K : Fg} {O : Pred} {H : Hp} : ∀ {mss : List (List Int)} {ys : List V}, RDs K O H (mss.map tupD) ys → ∀ y ∈ ys, ∃ m ∈ mss, TupI K H y m
  | [], ys, r, y, h => by simp only [List.map_nil, RDs] at r; subst r; exact nomatch h
  | a :: mss, ys, r, y, h => by
    rw [List.map_cons] at r
    simp only [RDs] at r
    obtain ⟨v, t, rfl, r1, r2⟩ := r
    rcases List.mem_cons.mp h with rfl | h
    · exact ⟨a, List.mem_cons_self .., tupI_of r1⟩
    · obtain ⟨m, hm, q⟩ := rds_mem r2 y h
      exact ⟨m, List.mem_cons_of_mem _ hm, q⟩
def decT : PyData → List Int
  | .tuple xs => (intsOf xs).getD []
  | _ => []
theorem decT_tupD (ns : List Int) : decT (tupD ns) = ns := by
  show (intsOf (ns.map .int)).getD [] = ns
  rw [intsOf_map]
  rfl
theorem perm_dec {mss : List (List Int)} {ds : List PyData} (p : ds.Perm (mss.map tupD)) : ds = (ds.map decT).map tupD ∧ (ds.map decT).Perm mss := by
  constructor
  · rw [List.map_map]
    refine (List.map_id ds).symm.trans (List.map_congr_left fun d hd => ?_)
    obtain ⟨m, _, rfl⟩ := List.mem_map.mp (p.mem_iff.mp hd)
    show tupD m = tupD (decT (tupD m))
    rw [decT_tupD]
  · have := p.map decT
    rw [List.map_map] at this
    have e : mss.map (decT ∘ tupD) = mss := (List.map_congr_left fun m _ => decT_tupD m).trans (List.map_id mss)
    rw [e] at this
    exact this
theorem cs_sorted1 {K : Fg} : CallS K (rSorted1 K) sortedV := by
  intro F O A sl p0 p σ H0 H vs xs z Q R0 X0 R rs hg q
  unfold sortedV at hg
  split at hg
  · rename_i x
    obtain ⟨v, rfl, r⟩ := rs.one
    split at hg
    · rename_i ds0 c0 ds c e1 e2
      obtain ⟨a, us, rfl, t, rd⟩ := r.items R0 R e2
      have ha : H a = some (.lst us) := by
        rcases t with ⟨_, _, ha⟩ | ⟨_, e7, _⟩
        · exact ha
        · rw [e1] at e7; cases e7
      split at hg
      · rename_i ns h1
        cases hg
        rw [of_intsOf h1] at rd
        have e := RDs.of_ints rd
        subst e
        refine .inl ⟨a, ns, rfl, SqL.of ha, fun ns' l hp hw hl => ?_⟩
        have eu : ns' = sortK (fun i => i) ns := sorted_uniq (fun i => i) (hp.trans (sortK_perm _ ns).symm) hw (sortK_pw _ ns) fun _ _ _ _ h => h
        rw [eu]
        exact q _ _ (Ex.new R hl) (VR.newL (c := true) R hl (RDs.ints _))
      · split at hg
        · rename_i ns nss h2
          split at hg
          · rename_i hc
            cases hg
            obtain ⟨c1, c2, c3⟩ := hc
            rw [of_tupsOf h2] at rd
            refine .inr ⟨ns.length, c1, a, us, rfl, SqL.of ha, ?_, fun y hy => ?_, fun ys l hp hw hl => ?_⟩
            · rw [rd.length, List.length_map, List.length_cons]; omega
            · obtain ⟨m, hm, tm⟩ := rds_mem rd y hy
              exact ⟨m, tm, (c3 m hm).1, (c3 m hm).2⟩
            · obtain ⟨ds', p', rd'⟩ := RDs.perm hp rd
              obtain ⟨e3, p3⟩ := perm_dec p'
              rw [e3] at rd'
              have pw := pw_rds rd' hw
              have eu : ds'.map decT = sortK (TS.code sortB) (ns :: nss) := sorted_uniq (TS.code sortB) (p3.trans (sortK_perm _ _).symm) pw (sortK_pw _ _) fun x hx y hy h => by
                have mx := c3 x (p3.mem_iff.mp hx)
                have my := c3 y (p3.mem_iff.mp hy)
                exact code_inj (mx.1.trans my.1.symm) mx.2 my.2 h
              rw [eu] at rd'
              exact q _ _ (Ex.new R hl) (VR.newL R hl rd')
          · cases hg
        · cases hg
    · cases hg
  · cases hg
end Pu
namespace Pu
open PySem PySem.Spec PyProof.Rows L2
/-! ### list(range(..)), tuple(range(..)) -/
section
variable {X : Cx} {e a b c : Expr} {ta tb tc : TE}
abbrev TRc := L2.St → Hp → (Int → Int → Int → Hp → Prop) → Prop
def PRc (X : Cx) (e : Expr) (t : TRc) : Prop := ∀ (pins : List (Addr × Obj)) (s : Shared) (σ : L2.St) (H : Hp) (Q : Int → Int → Int → Hp → Prop), Inv X pins σ H s → t σ H Q →
  wpAny (model X.prog X.w) X.A (eval e X.env) (fun x s' => ∃ r i j k t u v H', x = .ref r ∧ IsRange s'.heap r i j k t u v ∧ Inv X pins σ H' s' ∧ Q i j k H') X.xe s
theorem prc_one {t : L2.St → Hp → (Int → Int → Hp → Prop) → Prop} (h : PRg X e t) : PRc X e (fun σ H Q => t σ H fun i j H' => Q i j 1 H') := fun pins s σ H Q I w =>
  thn (h pins s σ H _ I w) fun x s' ⟨r, i, j, t1, u, v, H', e1, e2, e3, e4⟩ => ⟨r, i, j, 1, t1, u, v, H', e1, e2, e3, e4⟩
theorem prc_three {p pos : Pos} (hg : Gl X "range") (hm : X.mg "range" = none) (ha : PE X a ta) (hb : PE X b tb) (hc : PE X c tc) (na : starEach [a, b, c] X.env = (false, eval a X.env) :: starEach [b, c] X.env := by rfl)
    (nb : starEach [b, c] X.env = (false, eval b X.env) :: starEach [c] X.env := by rfl) (nc : starEach [c] X.env = (false, eval c X.env) :: starEach [] X.env := by rfl) (hp : (backTo pos (starEach [b, c] X.env)).any (·.1) = false := by rfl) :
    PRc X (.Call (.Name "range" p) [a, b, c] [] pos) (fun σ H Q => ta σ H fun x H1 => tb σ H1 fun y H2 => tc σ H2 fun z H3 => ∃ i j k, x = .int i ∧ y = .int j ∧ z = .int k ∧ k ≠ 0 ∧ k.natAbs < 1073741824 ∧ Q i j k H3) := by
  intro pins s σ H Q I h
  refine Call_ (ld_blt I hg hm boot_range (PyProof.Rows.callWith_type1 (args_cons (thn (ha.run pins s σ H _ I h) fun v s1 ⟨x, H1, I1, r1, q1⟩ => args_cons (thn (hb.run pins s1 σ H1 _ I1 q1) fun v2 s2 ⟨y, H2, I2, r2, q2⟩ => one_arg hc I2 q2 (fun v3 s3 z H3 I3 r3 q => ?_) nc) nb) na) na hp))
  obtain ⟨i, j, k, rfl, rfl, rfl, k0, k1, q⟩ := q
  obtain ⟨t1, rfl⟩ := r1
  obtain ⟨t2, rfl⟩ := r2
  obtain ⟨t3, rfl⟩ := r3
  exact call_range_3 k0 ⟨_, i, j, k, _, _, _, H3, rfl, IsRange.new _ _ _ _ _ _ _, I3.kept fun b u e => Heap.get?_push_of_some _ e, q⟩ (.inl (PyProof.noPylong_small k1))
def rcV (i k : Int) (n : Nat) : List V := (List.range n).map fun m => V.int (i + (m : Nat) * k)
theorem rcV_len (i k : Int) (n : Nat) : (rcV i k n).length = n := by unfold rcV; rw [List.length_map, List.length_range]
theorem vals_rc {i k : Int} {n : Nat} {acc : Array Value} (h : ItemsOf (fun m v => ∃ t, v = .int (i + m * k) t) acc n) : Vals (rcV i k n) acc.toList := by
  have el : acc.toList.length = n := by rw [Array.length_toList]; exact h.1
  unfold rcV
  rw [← el]
  refine vals_of_get acc.toList _ fun j u hj => ?_
  obtain ⟨t, rfl⟩ := h.2 j u (by rw [← hj, Array.getElem?_toList])
  exact ⟨t, rfl⟩
def tLstRc (te : TRc) : TE := fun σ H Q => te σ H fun i j k H1 => ∃ n : Nat, Builtin.Range.small i j k = true ∧ Builtin.Range.rangeSize i j k = (n : Int) ∧ n ≤ 2 ^ 24 ∧ ∀ q, H1 q = none → Q (.ref q) (upd H1 q (.lst (rcV i k n)))
def tTupRc (te : TRc) : TE := fun σ H Q => te σ H fun i j k H1 => ∃ n : Nat, Builtin.Range.small i j k = true ∧ Builtin.Range.rangeSize i j k = (n : Int) ∧ n ≤ 2 ^ 24 ∧ ∀ q, H1 q = none → Q (.ref q) (upd H1 q (.tup (rcV i k n)))
theorem pe_listRc {te : TRc} {p pos : Pos} (hc : X.calm = true) (hg : Gl X "list") (hm : X.mg "list" = none) (he : PRc X e te) (na : starEach [e] X.env = (false, eval e X.env) :: starEach [] X.env := by rfl) : PE X (.Call (.Name "list" p) [e] [] pos) (tLstRc te) := by
  refine ⟨fun pins s σ H Q I h => ?_⟩
  refine Call_ (ld_blt I hg hm boot_list (PyProof.Rows.callWith_type1 (args_cons (thn (he pins s σ H _ I h) fun x s1 ⟨r, i, j, k, t, u, v, H1, ex, hr, I1, ok⟩ => args_nil ?_) na) na))
  subst ex
  obtain ⟨n, b1, b2, b3, q⟩ := ok
  refine call_list_range (n := n) (I1.ok.hd hc) hr b1 b2 b3 fun h' tk acc c' hk e' hi => ?_
  refine ⟨.ref s1.heap.objs.size, upd H1 s1.heap.objs.size (.lst (rcV i k n)), I1.laid hk (Nat.le_refl _) (show ObjOk X.prog X.w _ _ _ (.lst (rcV i k n)) from ⟨?_, acc.toList, c', vals_rc hi, ?_⟩), rfl, q _ (I1.hok.fresh (Nat.le_refl _))⟩
  · rw [rcV_len, sizeLine_eq]; omega
  · rw [Array.toArray_toList]; exact e'
theorem pe_tupRc {te : TRc} {p pos : Pos} (hc : X.calm = true) (hg : Gl X "tuple") (hm : X.mg "tuple" = none) (he : PRc X e te) (na : starEach [e] X.env = (false, eval e X.env) :: starEach [] X.env := by rfl) : PE X (.Call (.Name "tuple" p) [e] [] pos) (tTupRc te) := by
  refine ⟨fun pins s σ H Q I h => ?_⟩
  refine Call_ (ld_blt I hg hm boot_tuple (PyProof.Rows.callWith_type1 (args_cons (thn (he pins s σ H _ I h) fun x s1 ⟨r, i, j, k, t, u, v, H1, ex, hr, I1, ok⟩ => args_nil ?_) na) na))
  subst ex
  obtain ⟨n, b1, b2, b3, q⟩ := ok
  refine call_tuple_range (n := n) (I1.ok.hd hc) hr b1 b2 b3 fun h' tk acc hk hi => ?_
  have I2 : Inv X pins σ H1 { s1 with heap := h', toks := tk } := I1.kept hk
  refine ⟨.ref h'.objs.size, upd H1 h'.objs.size (.tup (rcV i k n)), I2.laid (t' := tk) (fun c o e => Heap.get?_push_of_some _ e) (Nat.le_refl _) (show ObjOk X.prog X.w _ _ _ (.tup (rcV i k n)) from ⟨?_, acc.toList, vals_rc hi, ?_⟩), rfl, q _ (I2.hok.fresh (Nat.le_refl _))⟩
  · rw [rcV_len, sizeLine_eq]; omega
  · rw [Array.toArray_toList]; exact IsTup.new _ _
end
/-- the readings -/
abbrev Rv := Sl → Pot → Option (Int × Int × Int × Pot)
def rg1R (f : Ev) (sl : Sl) (p : Pot) : Option (Int × Int × Int × Pot) := match f sl p with
  | some (.sh (.int j), p1) => some (0, j, 1, p1)
  | _ => none
def rg2R (f g : Ev) (sl : Sl) (p : Pot) : Option (Int × Int × Int × Pot) := match f sl p with
  | some (.sh (.int i), p1) => (match g sl p1 with
    | some (.sh (.int j), p2) => some (i, j, 1, p2)
    | _ => none)
  | _ => none
def rg3R (f g h : Ev) (sl : Sl) (p : Pot) : Option (Int × Int × Int × Pot) := match f sl p with
  | some (.sh (.int i), p1) => (match g sl p1 with
    | some (.sh (.int j), p2) => (match h sl p2 with
      | some (.sh (.int k), p3) => if k ≠ 0 ∧ k.natAbs < 1073741824 then some (i, j, k, p3) else none
      | _ => none)
    | _ => none)
  | _ => none
def rangeC (i k : Int) (n : Nat) : List PyData := (List.range n).map fun m => .int (i + (m : Nat) * k)
def listRgE (g : Rv) (sl : Sl) (p : Pot) : Option (Val × Pot) := match g sl p with
  | some (i, j, k, p1) => if Builtin.Range.small i j k = true ∧ 0 ≤ Builtin.Range.rangeSize i j k ∧ Builtin.Range.rangeSize i j k ≤ 16777216 then some (.fr (.list (rangeC i k (Builtin.Range.rangeSize i j k).toNat)), p1) else none
  | none => none
def tupRgE (g : Rv) (sl : Sl) (p : Pot) : Option (Val × Pot) := match g sl p with
  | some (i, j, k, p1) => if Builtin.Range.small i j k = true ∧ 0 ≤ Builtin.Range.rangeSize i j k ∧ Builtin.Range.rangeSize i j k ≤ 16777216 then some (.sh (.tuple (rangeC i k (Builtin.Range.rangeSize i j k).toNat)), p1) else none
  | none => none
def tR (K : Fg) (g : Rv) : TRc := fun σ H Q => ∃ F O A sl p i j k p', Rl K F O A sl p σ H ∧ g sl p = some (i, j, k, p') ∧ ∀ H', Ex F H H' p' → Q i j k H'
theorem PRc.imp {X : Cx} {e : Expr} {t t' : TRc} (h : PRc X e t) (i : ∀ σ H Q, t' σ H Q → t σ H Q) : PRc X e t' := fun pins s σ H Q I w => h pins s σ H Q I (i σ H Q w)
theorem rc_data (i k : Int) (n : Nat) : rangeC i k n = ((List.range n).map fun m => i + (m : Nat) * k).map PyData.int ∧ rcV i k n = ((List.range n).map fun m => i + (m : Nat) * k).map V.int := ⟨by unfold rangeC; rw [List.map_map]; rfl, by unfold rcV; rw [List.map_map]; rfl⟩
section
variable {X : Cx} {e a b c : Expr} {fa fb fc : Ev} {g : Rv} {p pos : Pos}
theorem cr_1 (hm : X.mg "range" = none) (ha : CE X a fa) (hg : Gl X "range" := by rfl) (na : starEach [a] X.env = (false, eval a X.env) :: starEach [] X.env := by rfl) : PRc X (.Call (.Name "range" p) [a] [] pos) (tR X.K (rg1R fa)) := PRc.imp (prc_one (prg_1 hg hm ha na)) fun σ H Q h => by
  obtain ⟨F, O, A, sl, p, i, j, k, p', R, hf, q⟩ := h
  unfold rg1R at hf
  split at hf
  · rename_i j' p1 e1
    cases hf
    refine tE.get R e1 fun v H1 x1 r1 => ⟨j, ?_, q H1 x1⟩
    exact rdI (K := X.K) (O := O) (H := H1) r1
  · cases hf
theorem cr_2 (hm : X.mg "range" = none) (ha : CE X a fa) (hb : CE X b fb) (hg : Gl X "range" := by rfl) (na : starEach [a, b] X.env = (false, eval a X.env) :: starEach [b] X.env := by rfl) (nb : starEach [b] X.env = (false, eval b X.env) :: starEach [] X.env := by rfl) (hp : (backTo pos (starEach [b] X.env)).any (·.1) = false := by rfl) :
    PRc X (.Call (.Name "range" p) [a, b] [] pos) (tR X.K (rg2R fa fb)) := PRc.imp (prc_one (prg_2 hg hm ha hb na nb hp)) fun σ H Q h => by
  obtain ⟨F, O, A, sl, p, i, j, k, p', R, hf, q⟩ := h
  unfold rg2R at hf
  split at hf
  · rename_i i' p1 e1
    split at hf
    · rename_i j' p2 e2
      cases hf
      refine tE.get R e1 fun v H1 x1 r1 => tE.get (R.exp x1) e2 fun u H2 x2 r2 => ⟨i, j, ?_, ?_, q H2 (x1.trans x2)⟩
      · exact rdI (K := X.K) (O := O) (H := H1) r1
      · exact rdI (K := X.K) (O := O) (H := H2) r2
    · cases hf
  · cases hf
theorem cr_3 (hm : X.mg "range" = none) (ha : CE X a fa) (hb : CE X b fb) (hc : CE X c fc) (hg : Gl X "range" := by rfl) (na : starEach [a, b, c] X.env = (false, eval a X.env) :: starEach [b, c] X.env := by rfl)
    (nb : starEach [b, c] X.env = (false, eval b X.env) :: starEach [c] X.env := by rfl) (nc : starEach [c] X.env = (false, eval c X.env) :: starEach [] X.env := by rfl) (hp : (backTo pos (starEach [b, c] X.env)).any (·.1) = false := by rfl) :
    PRc X (.Call (.Name "range" p) [a, b, c] [] pos) (tR X.K (rg3R fa fb fc)) := PRc.imp (prc_three hg hm ha hb hc na nb nc hp) fun σ H Q h => by
  obtain ⟨F, O, A, sl, p, i, j, k, p', R, hf, q⟩ := h
  unfold rg3R at hf
  split at hf
  · rename_i i' p1 e1
    split at hf
    · rename_i j' p2 e2
      split at hf
      · rename_i k' p3 e3
        split at hf
        · rename_i ck
          cases hf
          refine tE.get R e1 fun v H1 x1 r1 => tE.get (R.exp x1) e2 fun u H2 x2 r2 => tE.get ((R.exp x1).exp x2) e3 fun w H3 x3 r3 => ⟨i, j, k, ?_, ?_, ?_, ck.1, ck.2, q H3 ((x1.trans x2).trans x3)⟩
          · exact rdI (K := X.K) (O := O) (H := H1) r1
          · exact rdI (K := X.K) (O := O) (H := H2) r2
          · exact rdI (K := X.K) (O := O) (H := H3) r3
        · cases hf
      · cases hf
    · cases hf
  · cases hf
theorem ce_listRg {pn cp : Pos} (hm : X.mg "list" = none) (hc : X.calm = true) (h : PRc X e (tR X.K g)) (hg : Gl X "list" := by rfl) (na : starEach [e] X.env = (false, eval e X.env) :: starEach [] X.env := by rfl) : CE X (.Call (.Name "list" pn) [e] [] cp) (listRgE g) := PEimp (pe_listRc hc hg hm h na) fun σ H Q hh => by
  obtain ⟨F, O, A, sl, p, val, p', R, hf, q⟩ := hh
  unfold listRgE at hf
  split at hf
  · rename_i i j k p1 e1
    split at hf
    · rename_i c
      cases hf
      refine ⟨F, O, A, sl, p, i, j, k, _, R, e1, fun H1 x1 => ⟨(Builtin.Range.rangeSize i j k).toNat, c.1, by omega, by omega, fun a ha => ?_⟩⟩
      obtain ⟨d1, d2⟩ := rc_data i k (Builtin.Range.rangeSize i j k).toNat
      rw [d1] at q
      rw [d2]
      have R1 := R.exp x1
      exact q _ _ (x1.trans (Ex.new R1 ha)) ((VR.newL (c := true) R1 ha (RDs.ints _)).back x1)
    · cases hf
  · cases hf
theorem ce_tupRg {pn cp : Pos} (hm : X.mg "tuple" = none) (hc : X.calm = true) (h : PRc X e (tR X.K g)) (hg : Gl X "tuple" := by rfl) (na : starEach [e] X.env = (false, eval e X.env) :: starEach [] X.env := by rfl) : CE X (.Call (.Name "tuple" pn) [e] [] cp) (tupRgE g) := PEimp (pe_tupRc hc hg hm h na) fun σ H Q hh => by
  obtain ⟨F, O, A, sl, p, val, p', R, hf, q⟩ := hh
  unfold tupRgE at hf
  split at hf
  · rename_i i j k p1 e1
    split at hf
    · rename_i c
      cases hf
      refine ⟨F, O, A, sl, p, i, j, k, _, R, e1, fun H1 x1 => ⟨(Builtin.Range.rangeSize i j k).toNat, c.1, by omega, by omega, fun a ha => ?_⟩⟩
      obtain ⟨d1, d2⟩ := rc_data i k (Builtin.Range.rangeSize i j k).toNat
      rw [d1] at q
      rw [d2]
      have R1 := R.exp x1
      exact q _ _ (x1.trans (Ex.new R1 ha)) ((VR.newT (c := true) R1 ha (RDs.ints _)).back x1)
    · cases hf
  · cases hf
end
end Pu
namespace Pu
open PySem PySem.Spec PyProof.Rows L2
/-! ### a truth value + an int, - an int -/
def rAddB : R2 := fun x y H Q => ∃ b j, x = .bl b ∧ y = .int j ∧ Q (.int ((if b = true then (1 : Int) else 0) + j)) H
def rSubB : R2 := fun x y H Q => ∃ b j, x = .bl b ∧ y = .int j ∧ Q (.int ((if b = true then (1 : Int) else 0) - j)) H
section
variable {X : Cx}
theorem op_add_bi : OpR X (binaryOp .Add) rAddB := by
  intro pins s σ H x y v u Q I rx ry h
  obtain ⟨b, j, rfl, rfl, q⟩ := h
  cases rx
  obtain ⟨t, rfl⟩ := ry
  exact PySem.IntBool.add_bool_int ⟨.int _, H, I.tok _, ⟨_, rfl⟩, q⟩
theorem op_sub_bi : OpR X (binaryOp .Sub) rSubB := by
  intro pins s σ H x y v u Q I rx ry h
  obtain ⟨b, j, rfl, rfl, q⟩ := h
  cases rx
  obtain ⟨t, rfl⟩ := ry
  exact PySem.IntBool.sub_bool_int ⟨.int _, H, I.tok _, ⟨_, rfl⟩, q⟩
end
def boolInt (x y : Val) : Option (Bool × Int) := match x.dat, y.dat with
  | some (.bool b, _), some (.int j, _) => some (b, j)
  | _, _ => none
def addW (x y : Val) : Option Val := match boolInt x y with
  | some (b, j) => some (.sh (.int ((if b = true then 1 else 0) + j)))
  | none => addV x y
def subW (x y : Val) : Option Val := match boolInt x y with
  | some (b, j) => some (.sh (.int ((if b = true then 1 else 0) - j)))
  | none => opF subK x y
theorem boolInt_is {x y : Val} {b : Bool} {j : Int} (h : boolInt x y = some (b, j)) : ∃ c c', x.dat = some (.bool b, c) ∧ y.dat = some (.int j, c') := by
  unfold boolInt at h
  split at h
  · rename_i e1 e2
    cases h
    exact ⟨_, _, e1, e2⟩
  · cases h
theorem ops_addW {K : Fg} {r : R2} (h : OpS K r addV) : OpS K (fun x y H Q => rAddB x y H Q ∨ r x y H Q) addW := by
  intro F O A sl p0 p σ H0 H x y vx vy z Q R0 X0 R rx ry hg q
  unfold addW at hg
  split at hg
  · rename_i b j e
    cases hg
    obtain ⟨c, c', e1, e2⟩ := boolInt_is e
    have h1 := rdB (rx.dat R0 R e1)
    have h2 := rdI (ry.dat R0 R e2)
    subst h1 h2
    exact .inl ⟨b, j, rfl, rfl, q _ H (Ex.refl R) (show RD K O H _ (.int _) from toI O H)⟩
  · exact .inr (h F O A sl p0 p σ H0 H x y vx vy z Q R0 X0 R rx ry hg q)
theorem ops_subW {K : Fg} {r : R2} (h : OpS K r (opF subK)) : OpS K (fun x y H Q => rSubB x y H Q ∨ r x y H Q) subW := by
  intro F O A sl p0 p σ H0 H x y vx vy z Q R0 X0 R rx ry hg q
  unfold subW at hg
  split at hg
  · rename_i b j e
    cases hg
    obtain ⟨c, c', e1, e2⟩ := boolInt_is e
    have h1 := rdB (rx.dat R0 R e1)
    have h2 := rdI (ry.dat R0 R e2)
    subst h1 h2
    exact .inl ⟨b, j, rfl, rfl, q _ H (Ex.refl R) (show RD K O H _ (.int _) from toI O H)⟩
  · exact .inr (h F O A sl p0 p σ H0 H x y vx vy z Q R0 X0 R rx ry hg q)
end Pu
namespace Pu
open PySem PySem.Spec PyProof.Rows L2
/-! ### data that repr can tell -/
def gdF (m : Nat) : PyData → Bool
  | .none => true
  | .bool _ => true
  | .int i => decide (i.natAbs ≤ m)
  | .str z => z.cps.toList.all fun c => decide (c < 16 ^ 8)
  | _ => false
mutual
def gd (m : Nat) : PyData → Bool
  | .none => true
  | .bool _ => true
  | .int i => decide (i.natAbs ≤ m)
  | .str z => z.cps.toList.all fun c => decide (c < 16 ^ 8)
  | .list xs => gdA m xs
  | .tuple xs => gdA m xs
  | .dict kvs => kvs.all fun q => isKey q.1 && flat q.2 && gdF m q.1 && gdF m q.2
def gdA (m : Nat) : List PyData → Bool
  | [] => true
  | x :: xs => gd m x && gdA m xs
end
theorem gdA_all (m : Nat) : ∀ xs : List PyData, gdA m xs = xs.all (gd m)
  | [] => by simp only [gdA, List.all_nil]
  | x :: xs => by simp only [gdA, List.all_cons, gdA_all m xs]
theorem gd_list (m : Nat) (xs : List PyData) : gd m (.list xs) = xs.all (gd m) := by simp only [gd, gdA_all]
theorem gd_tuple (m : Nat) (xs : List PyData) : gd m (.tuple xs) = xs.all (gd m) := by simp only [gd, gdA_all]
theorem log2_small {n : Nat} (h : n < 10 ^ 12) : n.log2 ≤ 39 := by
  by_cases h0 : n = 0
  · rw [h0]; decide
  · have := (Nat.log2_lt h0).mpr (show n < 2 ^ 40 from Nat.lt_of_lt_of_le h (by decide))
    omega
theorem gdF_ok {m : Nat} (hm : m < 10 ^ 12) {d : PyData} (h : gdF m d = true) : d.showable = true ∧ d.leavesShort 13 = true := by
  cases d with
  | none => exact ⟨rfl, rfl⟩
  | bool b => exact ⟨rfl, rfl⟩
  | int i =>
    have hi : i.natAbs ≤ m := by simpa only [gdF, decide_eq_true_eq] using h
    have hl := log2_small (n := i.natAbs) (by omega)
    exact ⟨by simp only [PyData.showable, decide_eq_true_eq]; omega, by simp only [PyData.leavesShort, decide_eq_true_eq]; exact PyData.shown_int_le (by omega)⟩
  | str z => exact ⟨rfl, by simpa only [PyData.leavesShort, gdF] using h⟩
  | _ => cases h
theorem gdKv_ok {m : Nat} (hm : m < 10 ^ 12) : ∀ {kvs : List (PyData × PyData)}, (kvs.all fun q => isKey q.1 && flat q.2 && gdF m q.1 && gdF m q.2) = true → (kvs.all fun q => isKey q.1 && flat q.2) = true ∧ PyData.showableKv kvs = true ∧ PyData.leavesShortKv 13 kvs = true
  | [], _ => ⟨rfl, rfl, rfl⟩
  | (k, v) :: r, h => by
    simp only [List.all_cons, Bool.and_eq_true] at h
    obtain ⟨⟨⟨⟨h1, h2⟩, h3⟩, h4⟩, h5⟩ := h
    obtain ⟨a1, a2, a3⟩ := gdKv_ok hm (kvs := r) (by simpa only [Bool.and_eq_true] using h5)
    obtain ⟨b1, b2⟩ := gdF_ok hm h3
    obtain ⟨c1, c2⟩ := gdF_ok hm h4
    refine ⟨?_, ?_, ?_⟩
    · simp only [List.all_cons, h1, h2, a1, Bool.and_self]
    · simp only [PyData.showableKv, b1, c1, a2, Bool.and_self]
    · simp only [PyData.leavesShortKv, b2, c2, a3, Bool.and_self]
mutual
theorem gd_ok {m : Nat} (hm : m < 10 ^ 12) : ∀ {d : PyData}, gd m d = true → okDict d = true ∧ d.showable = true ∧ d.leavesShort 13 = true
  | .none, _ => ⟨rfl, rfl, rfl⟩
  | .bool _, _ => ⟨rfl, rfl, rfl⟩
  | .int i, h => ⟨rfl, gdF_ok hm (d := .int i) (by simpa only [gdF, gd] using h)⟩
  | .str z, h => ⟨rfl, gdF_ok hm (d := .str z) (by simpa only [gdF, gd] using h)⟩
  | .list xs, h => by
    have q := gdA_ok hm (xs := xs) (by simpa only [gd] using h)
    simpa only [okDict, PyData.showable, PyData.leavesShort] using q
  | .tuple xs, h => by
    have q := gdA_ok hm (xs := xs) (by simpa only [gd] using h)
    simpa only [okDict, PyData.showable, PyData.leavesShort] using q
  | .dict kvs, h => by
    have q := gdKv_ok hm (kvs := kvs) (by simpa only [gd] using h)
    simpa only [okDict, PyData.showable, PyData.leavesShort] using q
theorem gdA_ok {m : Nat} (hm : m < 10 ^ 12) : ∀ {xs : List PyData}, gdA m xs = true → okDictAll xs = true ∧ PyData.showableAll xs = true ∧ PyData.leavesShortAll 13 xs = true
  | [], _ => by simp only [okDictAll, PyData.showableAll, PyData.leavesShortAll, and_self]
  | x :: xs, h => by
    simp only [gdA, Bool.and_eq_true] at h
    obtain ⟨a1, a2, a3⟩ := gd_ok hm h.1
    obtain ⟨b1, b2, b3⟩ := gdA_ok hm h.2
    simp only [okDictAll, PyData.showableAll, PyData.leavesShortAll, a1, a2, a3, b1, b2, b3, Bool.and_self, and_self]
end
theorem gd_repr {m : Nat} (hm : m < 10 ^ 12) {d : PyData} (h : gd m d = true) (hd : d.depth ≤ 60) (hw : d.weight ≤ 1048576) : reprOk2 d := by
  obtain ⟨a, b, c⟩ := gd_ok hm h
  exact ⟨a, b, hd, PyData.shown_fits (B := 13) (by decide) (by decide) c hw⟩
theorem gdF_mono {m n : Nat} (h : m ≤ n) {d : PyData} (g : gdF m d = true) : gdF n d = true := by
  cases d with
  | int i =>
    simp only [gdF, decide_eq_true_eq] at g ⊢
    omega
  | str z => simpa only [gdF] using g
  | none => rfl
  | bool _ => rfl
  | _ => cases g
mutual
theorem gd_mono {m n : Nat} (h : m ≤ n) : ∀ {d : PyData}, gd m d = true → gd n d = true
  | .none, _ => rfl
  | .bool _, _ => rfl
  | .int i, g => by
    simp only [gd, decide_eq_true_eq] at g ⊢
    omega
  | .str z, g => by simpa only [gd] using g
  | .list xs, g => by
    simp only [gd] at g ⊢
    exact gdA_mono h g
  | .tuple xs, g => by
    simp only [gd] at g ⊢
    exact gdA_mono h g
  | .dict kvs, g => by
    simp only [gd, List.all_eq_true, Bool.and_eq_true] at g ⊢
    intro q hq
    obtain ⟨⟨⟨a, b⟩, c⟩, d⟩ := g q hq
    exact ⟨⟨⟨a, b⟩, gdF_mono h c⟩, gdF_mono h d⟩
theorem gdA_mono {m n : Nat} (h : m ≤ n) : ∀ {xs : List PyData}, gdA m xs = true → gdA n xs = true
  | [], _ => by simp only [gdA]
  | x :: xs, g => by
    simp only [gdA, Bool.and_eq_true] at g ⊢
    exact ⟨gd_mono h g.1, gdA_mono h g.2⟩
end
/-! weights, depths of lists -/
theorem wA_append : ∀ xs ys : List PyData, PyData.weightAll (xs ++ ys) = PyData.weightAll xs + PyData.weightAll ys
  | [], ys => by simp only [List.nil_append, PyData.weightAll, Nat.zero_add]
  | x :: xs, ys => by
    simp only [List.cons_append, PyData.weightAll, wA_append xs ys]
    omega
theorem wA_reverse : ∀ xs : List PyData, PyData.weightAll xs.reverse = PyData.weightAll xs
  | [] => rfl
  | x :: xs => by
    simp only [List.reverse_cons, wA_append, PyData.weightAll, wA_reverse xs]
    omega
theorem wA_take : ∀ (n : Nat) (xs : List PyData), PyData.weightAll (xs.take n) ≤ PyData.weightAll xs
  | 0, xs => by simp only [List.take_zero, PyData.weightAll]; omega
  | n + 1, [] => by simp only [List.take_nil]; omega
  | n + 1, x :: xs => by
    have := wA_take n xs
    simp only [List.take_succ_cons, PyData.weightAll]
    omega
theorem wA_drop : ∀ (n : Nat) (xs : List PyData), PyData.weightAll (xs.drop n) ≤ PyData.weightAll xs
  | 0, xs => by rw [List.drop_zero]; exact Nat.le_refl _
  | n + 1, [] => by simp only [List.drop_nil]; omega
  | n + 1, x :: xs => by
    have := wA_drop n xs
    simp only [List.drop_succ_cons, PyData.weightAll]
    omega
theorem wA_mem : ∀ {xs : List PyData} {x : PyData}, x ∈ xs → x.weight + 1 ≤ PyData.weightAll xs
  | y :: xs, x, h => by
    simp only [PyData.weightAll]
    rcases List.mem_cons.mp h with rfl | h
    · omega
    · have := wA_mem h
      omega
theorem wA_set : ∀ {xs : List PyData} {i : Nat} (h : i < xs.length) (y : PyData), PyData.weightAll (xs.set i y) + xs[i].weight = PyData.weightAll xs + y.weight
  | x :: xs, 0, _, y => by simp only [List.set_cons_zero, PyData.weightAll, List.getElem_cons_zero]; omega
  | x :: xs, i + 1, h, y => by
    have := wA_set (xs := xs) (i := i) (by simpa using h) y
    simp only [List.set_cons_succ, PyData.weightAll, List.getElem_cons_succ]
    omega
theorem dA_le {n : Nat} : ∀ {xs : List PyData}, PyData.depthAll xs ≤ n ↔ ∀ x ∈ xs, x.depth ≤ n
  | [] => by simp [PyData.depthAll]
  | x :: xs => by simp only [PyData.depthAll, Nat.max_le, dA_le (xs := xs), List.mem_cons, forall_eq_or_imp]
theorem w_ints {m : Nat} (hm : m < 10 ^ 12) : ∀ {ns : List Int}, (∀ i ∈ ns, i.natAbs ≤ m) → PyData.weightAll (ns.map .int) ≤ 41 * ns.length
  | [], _ => by simp [PyData.weightAll]
  | n :: ns, h => by
    have ih := w_ints hm (ns := ns) fun i hi => h i (List.mem_cons_of_mem _ hi)
    have hn := h n (List.mem_cons_self ..)
    have hl := log2_small (n := n.natAbs) (by omega)
    simp only [List.map_cons, PyData.weightAll, PyData.weight, List.length_cons]
    split <;> omega
/-! comprehensions -/
theorem yesE_ap (sl : Sl) (p : Pot) : yesE sl p = some (.sh (.bool true), p) := rfl
theorem compL_all {t : Tg} {fe : Ev} {sl : Sl} {C : PyData → Prop} : ∀ (ds : List PyData), (∀ d ∈ ds, ∃ sl1, asgD t d sl = some sl1 ∧ ∀ p, ∃ val p' e, fe sl1 p = some (val, p') ∧ val.dat = some (e, true) ∧ C e) →
    ∀ p, ∃ es p', compL t yesE fe sl ds p = some (es, p') ∧ es.length = ds.length ∧ ∀ e ∈ es, C e
  | [], _, p => ⟨[], p, rfl, rfl, fun _ h => nomatch h⟩
  | d :: ds, h, p => by
    obtain ⟨sl1, e1, f⟩ := h d (List.mem_cons_self ..)
    obtain ⟨val, p1, e, e2, e3, c⟩ := f p
    obtain ⟨es, p2, e4, hl, hc⟩ := compL_all ds (fun d' m => h d' (List.mem_cons_of_mem _ m)) p1
    refine ⟨e :: es, p2, ?_, by simp [hl], fun x m => ?_⟩
    · unfold compL
      simp only [e1, yesE_ap, e2, e3, e4]
    · rcases List.mem_cons.mp m with rfl | m
      · exact c
      · exact hc x m
theorem compL_map {t : Tg} {fe : Ev} {sl : Sl} (g : PyData → PyData) : ∀ (ds : List PyData), (∀ d ∈ ds, ∃ sl1, asgD t d sl = some sl1 ∧ ∀ p, ∃ val, fe sl1 p = some (val, p) ∧ val.dat = some (g d, true)) →
    ∀ p, compL t yesE fe sl ds p = some (ds.map g, p)
  | [], _, p => rfl
  | d :: ds, h, p => by
    obtain ⟨sl1, e1, f⟩ := h d (List.mem_cons_self ..)
    obtain ⟨val, e2, e3⟩ := f p
    have ih := compL_map g ds (fun d' m => h d' (List.mem_cons_of_mem _ m)) p
    unfold compL
    simp only [e1, yesE_ap, e2, e3, ih, List.map_cons]
theorem all_bools (b : PyData → Bool) (ds : List PyData) : allK [.list (ds.map fun d => .bool (b d))] = some (.bool (ds.all b)) := by
  have e : boolsOf (ds.map fun d => PyData.bool (b d)) = some (ds.map b) := by
    rw [← boolsOf_map (ds.map b), List.map_map]; rfl
  unfold allK
  simp only [e, Option.map_some, List.all_map]
  rfl
theorem any_bools (b : PyData → Bool) (ds : List PyData) : anyK [.list (ds.map fun d => .bool (b d))] = some (.bool (ds.any b)) := by
  have e : boolsOf (ds.map fun d => PyData.bool (b d)) = some (ds.map b) := by
    rw [← boolsOf_map (ds.map b), List.map_map]; rfl
  unfold anyK
  simp only [e, Option.map_some, List.any_map]
  rfl
theorem rng_len (lo : Int) (n : Nat) : (rangeD lo n).length = n := by
  unfold rangeD
  rw [List.length_map, List.length_range]
/-- a whole number within bounds -/
def wh (d : PyData) (lo hi : Int) : Bool := match d with
  | .int i => decide (lo ≤ i) && decide (i ≤ hi)
  | _ => false
theorem eqP_int (i j : Int) : eqP (.int i) (.int j) = some (.bool (decide (i = j))) := rfl
theorem eqP_str (i j : Str) : eqP (.str i) (.str j) = some (.bool (decide (i = j))) := rfl
theorem neP_int (i j : Int) : neP (.int i) (.int j) = some (.bool (!decide (i = j))) := rfl
theorem neP_str (i j : Str) : neP (.str i) (.str j) = some (.bool (!decide (i = j))) := rfl
end Pu
namespace Pu
open PySem PySem.Spec PyProof.Rows L2
/-! ### a slot's container is from here on a datum like another -/
def frzL : List Nat → Sl → Sl
  | [], sl => sl
  | j :: is, sl => frzL is (frz1 j sl)
def frS (is : List Nat) (s : Sm) (sl : Sl) (p : Pot) : Option Out := s (frzL is sl) p
section
variable {K : Fg} {F : Fc} {O : Pred} {A : Nat → Addr} {sl : Sl} {p : Pot} {σ : L2.St} {H : Hp}
theorem Rl.frzOne (R : Rl K F O A sl p σ H) (j : Nat) : ∃ O', Rl K F O' A (Pu.frz1 j sl) p σ H ∧ ∀ b, O' b → O b := by
  cases e : sl[j]? with
  | none => exact ⟨O, by unfold Pu.frz1; rw [e]; exact R, fun _ h => h⟩
  | some s =>
    cases hb : isBox s with
    | true => exact ⟨_, R.frz1 e hb, fun _ h => h.1⟩
    | false =>
      have hs : frzS s = s := by cases s <;> first | rfl | cases hb
      refine ⟨O, ?_, fun _ h => h⟩
      unfold Pu.frz1
      rw [e]
      dsimp only
      rw [hs]
      obtain ⟨hl, rfl⟩ := List.getElem?_eq_some_iff.mp e
      rw [List.set_getElem_self]
      exact R
theorem Rl.frzL : ∀ {O : Pred} {sl : Sl} (is : List Nat), Rl K F O A sl p σ H → ∃ O', Rl K F O' A (Pu.frzL is sl) p σ H ∧ ∀ b, O' b → O b
  | O, sl, [], R => ⟨O, R, fun _ h => h⟩
  | O, sl, j :: is, R => by
    obtain ⟨O1, R1, h1⟩ := R.frzOne j
    obtain ⟨O2, R2, h2⟩ := Rl.frzL is R1
    exact ⟨O2, R2, fun b h => h1 b (h2 b h)⟩
end
theorem cs_frz {X : Cx} {st : Stmt} {s : Sm} (is : List Nat) (h : CS X st s) : CS X st (frS is s) := PSimp h fun D σ H h => by
  obtain ⟨F, O, A, sl, p, out, R, hf, q⟩ := h
  obtain ⟨O1, R1, h1⟩ := R.frzL is
  exact ⟨F, O1, A, _, p, out, R1, hf, q.tr (tr_sub h1)⟩
end Pu
namespace K94
open PySem PySem.Spec PyProof.Rows L2 Pu
noncomputable section
def B_law_draw : Sm := (seqS (iteS (binE (opF gtK) (potE 0 false) (constE (.int 0))) (seqS (potDivS 0 2 (varE 1))
    (retS (varE 2))) nxS)
    (seqS (potS 0 (binE (opF modK) (callE (cF intK) [(binE addW (binE mulV (potE 0 true) (constE (.int 40692))) (constE (.int 10651)))]) (constE (.int 2147483587))))
    (retS (binE (opF modK) (callE (cF intK) [(binE (opF fdivK) (binE (opF modK) (callE (cF intK) [(binE mulV (potE 0 true) (potE 0 true))]) (constE (.int 2147483549))) (constE (.int 43)))]) (varE 1)))))
def F_law_draw : Fn := defF 3 B_law_draw
def B_law_pick : Sm := (retS (binE ixV (varE 1) (callF F_law_draw [(varE 0), (callE lenV [(varE 1)])])))
def F_law_pick : Fn := defF 2 B_law_pick
def B_law_bent (Fr : Fn) : Sm := (seqS (iteS (andE (isi2E "tuple" "list" (varE 1)) (andE (binE (opF gtK) (callE lenV [(varE 1)]) (constE (.int 0))) (binE (opF gtK) (callF F_law_draw [(varE 0), (constE (.int 8))]) (constE (.int 0))))) (seqS (parS [2, 3] [(callF F_law_draw [(varE 0), (callE lenV [(varE 1)])]), (callF F_law_draw [(varE 0), (constE (.int 12))])])
    (seqS (iteS (binE (opF eqP) (varE 3) (constE (.int 0))) (retS (binE addW (slE (varE 1) none (some (varE 2))) (slE (varE 1) (some (binE addW (varE 2) (constE (.int 1)))) none))) nxS)
    (seqS (iteS (binE (opF eqP) (varE 3) (constE (.int 1))) (retS (binE addW (slE (varE 1) none (some (binE addW (varE 2) (constE (.int 1))))) (slE (varE 1) (some (varE 2)) none))) nxS)
    (seqS (iteS (binE (opF eqP) (varE 3) (constE (.int 2))) (retS (unE revV (varE 1))) nxS)
    (seqS (iteS (binE (opF eqP) (varE 3) (constE (.int 3))) (retS (ifE (isiE "tuple" (varE 1)) (callE listV [(varE 1)]) (callE tupV [(varE 1)]))) nxS)
    (seqS (setS 4 (callE listV [(varE 1)]))
    (seqS (setIS 4 (varE 2) (callF Fr [(varE 0), (binE ixV (varE 1) (varE 2))]))
    (retS (ifE (isiE "list" (varE 1)) (varE 4) (callE tupV [(varE 4)])))))))))) nxS)
    (seqS (setS 5 (lstE [(constE .none), (constE (.int 0)), (constE (.int 1)), (constE (.int 2)), (unE negV (constE (.int 1))), (constE (.bool true)), (constE (.str "go")), (constE (.str "fall")), (constE (.str "bring")), (constE (.str "letter")), (constE (.str "Go")), (tupE []), (lstE []), dnewE, (constE (.int 400)), (constE (.int 401)), (constE (.int 1000)), (constE (.int 1001)), (constE (.int 3)), (constE (.int 9)), (tupE [(constE (.int 0))]), (tupE [(constE (.int 1)), (constE (.int 0))]), (constE (.str "0"))]))
    (retS (callF F_law_pick [(varE 0), (binE addW (varE 5) (ifE (isiE "int" (varE 1)) (lstE [(binE addW (varE 1) (constE (.int 1))), (binE subW (varE 1) (constE (.int 1)))]) (lstE [])))]))))
def F_law_bent : Nat → Fn
  | 0, _, _ => none
  | k + 1, as, p => defF 6 (B_law_bent (F_law_bent k)) as p
def B_law_is_whole : Sm := (retS (andE (isiE "int" (varE 0)) (andE (notE (isiE "bool" (varE 0))) (chainE (opF leK) (opF leK) (varE 1) (varE 0) (varE 2)))))
def F_law_is_whole : Fn := defF 3 B_law_is_whole
def B_law_is_cuts : Sm := (seqS (iteS (orE (notE (isi2E "list" "tuple" (varE 1))) (orE (notE (chainE (opF leK) (opF leK) (constE (.int 1)) (callE lenV [(varE 1)]) (constE (.int 8)))) (notE (callE (cF allK) [(lcE (.nm 4) (itJ (varE 1)) yesE (callF F_law_is_whole [(varE 4), (unE negV (constE (.int 400))), (constE (.int 400))]) [4])])))) (retS (constE (.bool false))) nxS)
    (retS (callE (cF allK) [(lcE (.tp [(.nm 2), (.nm 3)]) (zipJ (varE 1) (slE (varE 1) (some (constE (.int 1))) none)) yesE (binE (opF geK) (binE subW (varE 3) (varE 2)) (callE (cF max3K) [(constE (.int 1)), (binE ixV (varE 0) (constE (.int 0))), (binE ixV (varE 0) (constE (.int 1)))])) [2, 3])])))
def F_law_is_cuts : Fn := defF 5 B_law_is_cuts
def B_law_is_letter : Sm := (seqS (iteS (orE (notE (isiE "tuple" (varE 3))) (orE (binE (opF neP) (callE lenV [(varE 3)]) (constE (.int 5))) (orE (notE (isiE "str" (binE ixV (varE 3) (constE (.int 0))))) (binE (opF neP) (binE ixV (varE 3) (constE (.int 0))) (constE (.str "letter")))))) (retS (constE (.bool false))) nxS)
    (seqS (iteS (orE (notE (callE (cF allK) [(lcE (.nm 5) (itJ (slE (varE 3) (some (constE (.int 1))) (some (constE (.int 3))))) yesE (callF F_law_is_whole [(varE 5), (constE (.int 0)), (callE lenV [(varE 2)])]) [5])])) (notE (callF F_law_is_whole [(binE ixV (varE 3) (constE (.int 3))), (constE (.int 0)), (constE (.int 1000))]))) (retS (constE (.bool false))) nxS)
    (seqS (iteS (orE (notE (isiE "tuple" (binE ixV (varE 3) (constE (.int 4))))) (notE (callE (cF allK) [(lcE (.nm 5) (itJ (binE ixV (varE 3) (constE (.int 4)))) yesE (callF F_law_is_whole [(varE 5), (constE (.int 0)), (binE subW (varE 0) (constE (.int 1)))]) [5])]))) (retS (constE (.bool false))) nxS)
    (seqS (setS 4 (get2E (dictE [((constE (.int 1)), (binE ixV (varE 1) (constE (.int 0)))), ((unE negV (constE (.int 1))), (binE ixV (varE 1) (constE (.int 1))))]) (binE subW (binE ixV (varE 3) (constE (.int 2))) (binE ixV (varE 3) (constE (.int 1)))) (constE (.int 0))))
    (retS (andE (binE (opF gtK) (varE 4) (constE (.int 0))) (binE (opF eqP) (callE lenV [(binE ixV (varE 3) (constE (.int 4)))]) (varE 4))))))))
def F_law_is_letter : Fn := defF 6 B_law_is_letter
def B_law_is_step : Sm := (seqS (iteS (orE (notE (isiE "tuple" (varE 1))) (orE (binE (opF eqP) (varE 1) (tupE [])) (notE (isiE "str" (binE ixV (varE 1) (constE (.int 0))))))) (retS (constE (.bool false))) nxS)
    (seqS (iteS (binE inV' (binE ixV (varE 1) (constE (.int 0))) (tupE [(constE (.str "go")), (constE (.str "fall"))])) (retS (andE (binE (opF eqP) (callE lenV [(varE 1)]) (constE (.int 2))) (callF F_law_is_whole [(binE ixV (varE 1) (constE (.int 1))), (constE (.int 0)), (callE lenV [(varE 0)])]))) nxS)
    (seqS (iteS (orE (binE (opF neP) (binE ixV (varE 1) (constE (.int 0))) (constE (.str "bring"))) (orE (binE (opF neP) (callE lenV [(varE 1)]) (constE (.int 4))) (notE (callE (cF allK) [(lcE (.nm 2) (itJ (slE (varE 1) (some (constE (.int 1))) (some (constE (.int 3))))) yesE (callF F_law_is_whole [(varE 2), (constE (.int 0)), (callE lenV [(varE 0)])]) [2])])))) (retS (constE (.bool false))) nxS)
    (retS (andE (binE inV' (binE subW (binE ixV (varE 1) (constE (.int 2))) (binE ixV (varE 1) (constE (.int 1)))) (tupE [(constE (.int 1)), (unE negV (constE (.int 1)))])) (callF F_law_is_whole [(binE ixV (varE 1) (constE (.int 3))), (constE (.int 0)), (constE (.int 1000))]))))))
def F_law_is_step : Fn := defF 3 B_law_is_step
def B_law_is_schedule : Sm := (retS (andE (isi2E "list" "tuple" (varE 1)) (andE (binE (opF leK) (callE lenV [(varE 1)]) (constE (.int 2000))) (callE (cF allK) [(lcE (.nm 2) (itJ (varE 1)) yesE (callF F_law_is_step [(varE 0), (varE 2)]) [2])]))))
def F_law_is_schedule : Fn := defF 3 B_law_is_schedule
def B_law_words : Sm := (seqS (setS 2 (lstE [(tupE [])]))
    (seqS (forS (.nm 3) (rng1I (varE 1)) (seqS (setS 4 (lstE []))
    (seqS (forS (.nm 5) (itV (varE 2)) (extS 4 (lcE (.nm 6) (rng1J (varE 0)) yesE (binE addW (varE 5) (tupE [(varE 6)])) [6])))
    (setS 2 (varE 4)))))
    (retS (varE 2))))
def F_law_words : Fn := defF 7 B_law_words
def B_power_by : Sm := (seqS (setS 2 (constE (.int 1)))
    (seqS (forS (.nm 3) (rng1I (varE 1)) (setS 2 (binE mulV (varE 2) (varE 0))))
    (retS (varE 2))))
def F_power_by : Fn := defF 4 B_power_by
def B_width_in : Sm := (seqS (setS 1 (constE (.int 1)))
    (seqS (whileS (binE (opF ltK) (callF F_power_by [(binE ixV (varE 0) (constE (.int 1))), (varE 1)]) (callE lenV [(binE ixV (varE 0) (constE (.int 3)))])) (setS 1 (binE addW (varE 1) (constE (.int 1)))))
    (retS (varE 1))))
def F_width_in : Fn := defF 2 B_width_in
def B_is_near : Sm := (retS (chainE (opF leK) (opF leK) (unE negV (constE (.int 100))) (binE ixV (varE 0) (constE (.int 2))) (binE addW (binE subW (constE (.int 100)) (callF F_width_in [(varE 0)])) (constE (.int 1)))))
def F_is_near : Fn := defF 1 B_is_near
def B_is_tuple_of : Sm := (retS (andE (isiE "tuple" (varE 0)) (binE (opF eqP) (callE lenV [(varE 0)]) (varE 1))))
def F_is_tuple_of : Fn := defF 2 B_is_tuple_of
def B_is_integer : Sm := (retS (andE (isiE "int" (varE 0)) (notE (isiE "bool" (varE 0)))))
def F_is_integer : Fn := defF 1 B_is_integer
def B_is_within : Sm := (retS (andE (callF F_is_integer [(varE 0)]) (chainE (opF leK) (opF leK) (varE 1) (varE 0) (varE 2))))
def F_is_within : Fn := defF 3 B_is_within
def B_is_states_any : Sm := (retS (callF F_is_within [(varE 0), (constE (.int 2)), (constE (.int 8))]))
def F_is_states_any : Fn := defF 1 B_is_states_any
def B_is_word_of : Sm := (retS (andE (isiE "tuple" (varE 1)) (callE (cF allK) [(lcE (.nm 2) (itJ (varE 1)) yesE (callF F_is_within [(varE 2), (constE (.int 0)), (binE subW (varE 0) (constE (.int 1)))]) [2])])))
def F_is_word_of : Fn := defF 3 B_is_word_of
def B_is_rule_any : Sm := (seqS (iteS (orE (notE (callF F_is_tuple_of [(varE 0), (constE (.int 4))])) (orE (notE (isiE "str" (binE ixV (varE 0) (constE (.int 0))))) (orE (binE (opF neP) (binE ixV (varE 0) (constE (.int 0))) (constE (.str "rule"))) (notE (callF F_is_states_any [(binE ixV (varE 0) (constE (.int 1)))]))))) (retS (constE (.bool false))) nxS)
    (seqS (iteS (orE (notE (callF F_is_integer [(binE ixV (varE 0) (constE (.int 2)))])) (orE (notE (isiE "tuple" (binE ixV (varE 0) (constE (.int 3))))) (notE (chainE (opF leK) (opF leK) (constE (.int 2)) (callE lenV [(binE ixV (varE 0) (constE (.int 3)))]) (constE (.int 4096)))))) (retS (constE (.bool false))) nxS)
    (seqS (iteS (orE (binE (opF neP) (callF F_power_by [(binE ixV (varE 0) (constE (.int 1))), (callF F_width_in [(varE 0)])]) (callE lenV [(binE ixV (varE 0) (constE (.int 3)))])) (notE (callF F_is_word_of [(binE ixV (varE 0) (constE (.int 1))), (binE ixV (varE 0) (constE (.int 3)))]))) (retS (constE (.bool false))) nxS)
    (retS (callF F_is_near [(varE 0)])))))
def F_is_rule_any : Fn := defF 1 B_is_rule_any
def B_want_rule : Sm := (seqS (iteS (notE (callF F_is_rule_any [(varE 0)])) noS nxS)
    (retS (varE 0)))
def F_want_rule : Fn := defF 1 B_want_rule
def B_is_listed : Sm := (retS (isi2E "list" "tuple" (varE 0)))
def F_is_listed : Fn := defF 1 B_is_listed
def B_rims_in : Sm := (retS (tupE [(callE (cF maxK) [(constE (.int 0)), (unE negV (binE ixV (varE 0) (constE (.int 2))))]), (callE (cF maxK) [(constE (.int 0)), (binE subW (binE addW (binE ixV (varE 0) (constE (.int 2))) (callF F_width_in [(varE 0)])) (constE (.int 1)))])]))
def F_rims_in : Fn := defF 1 B_rims_in
def B_are_cuts : Sm := (seqS (iteS (orE (notE (callF F_is_listed [(varE 1)])) (notE (chainE (opF leK) (opF leK) (constE (.int 1)) (callE lenV [(varE 1)]) (constE (.int 8))))) (retS (constE (.bool false))) nxS)
    (seqS (iteS (notE (callE (cF allK) [(lcE (.nm 5) (itJ (varE 1)) yesE (callF F_is_within [(varE 5), (unE negV (constE (.int 400))), (constE (.int 400))]) [5])])) (retS (constE (.bool false))) nxS)
    (seqS (setS 2 (callE (cF maxK) [(constE (.int 1)), (callE (cF max1K) [(callF F_rims_in [(varE 0)])])]))
    (retS (callE (cF allK) [(lcE (.tp [(.nm 3), (.nm 4)]) (zipJ (varE 1) (slE (varE 1) (some (constE (.int 1))) none)) yesE (binE (opF geK) (binE subW (varE 4) (varE 3)) (varE 2)) [3, 4])])))))
def F_are_cuts : Fn := defF 6 B_are_cuts
def B_is_cuts : Sm := (seqS (dropS (callF F_want_rule [(varE 0)]))
    (retS (callF F_are_cuts [(varE 0), (varE 1)])))
def F_is_cuts : Fn := defF 2 B_is_cuts
def B_want_cuts : Sm := (iteS (notE (callF F_are_cuts [(varE 0), (varE 1)])) noS nxS)
def F_want_cuts : Fn := defF 2 B_want_cuts
def B_rim_letters : Sm := (seqS (unpS [(.nm 2), (.nm 3)] (callF F_rims_in [(varE 0)]))
    (seqS (setS 4 (lstE []))
    (seqS (forS (.nm 5) (rng1I (callE lenV [(varE 1)])) (seqS (iteS (binE (opF gtK) (varE 2) (constE (.int 0))) (appS 4 (tupE [(varE 5), (binE addW (varE 5) (constE (.int 1))), (varE 2)])) nxS)
    (iteS (binE (opF gtK) (varE 3) (constE (.int 0))) (appS 4 (tupE [(binE addW (varE 5) (constE (.int 1))), (varE 5), (varE 3)])) nxS)))
    (retS (callE sortedV [(varE 4)])))))
def F_rim_letters : Fn := defF 6 B_rim_letters
def B_is_letter_of : Sm := (seqS (iteS (orE (notE (callF F_is_tuple_of [(varE 2), (constE (.int 5))])) (orE (notE (isiE "str" (binE ixV (varE 2) (constE (.int 0))))) (binE (opF neP) (binE ixV (varE 2) (constE (.int 0))) (constE (.str "letter"))))) (retS (constE (.bool false))) nxS)
    (seqS (iteS (notE (callF F_is_word_of [(binE ixV (varE 0) (constE (.int 1))), (binE ixV (varE 2) (constE (.int 4)))])) (retS (constE (.bool false))) nxS)
    (seqS (iteS (orE (notE (callE (cF allK) [(lcE (.nm 3) (itJ (slE (varE 2) (some (constE (.int 1))) (some (constE (.int 3))))) yesE (callF F_is_within [(varE 3), (constE (.int 0)), (callE lenV [(varE 1)])]) [3])])) (notE (callF F_is_within [(binE ixV (varE 2) (constE (.int 3))), (constE (.int 0)), (constE (.int 1000))]))) (retS (constE (.bool false))) nxS)
    (retS (binE inV' (tupE [(binE ixV (varE 2) (constE (.int 1))), (binE ixV (varE 2) (constE (.int 2))), (callE lenV [(binE ixV (varE 2) (constE (.int 4)))])]) (callF F_rim_letters [(varE 0), (varE 1)]))))))
def F_is_letter_of : Fn := defF 4 B_is_letter_of
def B_is_letter : Sm := (seqS (dropS (callF F_want_rule [(varE 0)]))
    (seqS (dropS (callF F_want_cuts [(varE 0), (varE 1)]))
    (retS (callF F_is_letter_of [(varE 0), (varE 1), (varE 2)]))))
def F_is_letter : Fn := defF 3 B_is_letter
def B_is_word_in : Sm := (retS (andE (isiE "str" (varE 0)) (binE inV' (varE 0) (varE 1))))
def F_is_word_in : Fn := defF 2 B_is_word_in
def B_is_work : Sm := (seqS (iteS (orE (notE (isiE "tuple" (varE 1))) (orE (binE (opF eqP) (varE 1) (tupE [])) (notE (callF F_is_word_in [(binE ixV (varE 1) (constE (.int 0))), (tupE [(constE (.str "go")), (constE (.str "fall")), (constE (.str "bring"))])])))) (retS (constE (.bool false))) nxS)
    (seqS (iteS (binE (opF neP) (binE ixV (varE 1) (constE (.int 0))) (constE (.str "bring"))) (retS (andE (binE (opF eqP) (callE lenV [(varE 1)]) (constE (.int 2))) (callF F_is_within [(binE ixV (varE 1) (constE (.int 1))), (constE (.int 0)), (callE lenV [(varE 0)])]))) nxS)
    (seqS (iteS (orE (binE (opF neP) (callE lenV [(varE 1)]) (constE (.int 4))) (notE (callE (cF allK) [(lcE (.nm 2) (itJ (slE (varE 1) (some (constE (.int 1))) (some (constE (.int 3))))) yesE (callF F_is_within [(varE 2), (constE (.int 0)), (callE lenV [(varE 0)])]) [2])]))) (retS (constE (.bool false))) nxS)
    (retS (andE (binE (opF eqP) (callE (cF absK) [(binE subW (binE ixV (varE 1) (constE (.int 1))) (binE ixV (varE 1) (constE (.int 2))))]) (constE (.int 1))) (callF F_is_within [(binE ixV (varE 1) (constE (.int 3))), (constE (.int 0)), (constE (.int 1000))]))))))
def F_is_work : Fn := defF 3 B_is_work
def B_are_works : Sm := (retS (andE (callF F_is_listed [(varE 1)]) (andE (binE (opF leK) (callE lenV [(varE 1)]) (constE (.int 2000))) (callE (cF allK) [(lcE (.nm 2) (itJ (varE 1)) yesE (callF F_is_work [(varE 0), (varE 2)]) [2])]))))
def F_are_works : Fn := defF 3 B_are_works
def B_is_schedule : Sm := (seqS (dropS (callF F_want_rule [(varE 0)]))
    (seqS (dropS (callF F_want_cuts [(varE 0), (varE 1)]))
    (retS (callF F_are_works [(varE 1), (varE 2)]))))
def F_is_schedule : Fn := defF 3 B_is_schedule
def B_law_right : Sm := (seqS (parS [1, 2, 3] [(binE addW (constE (.int 2)) (callF F_law_draw [(varE 0), (constE (.int 2))])), (binE subW (callF F_law_draw [(varE 0), (constE (.int 6))]) (constE (.int 4))), (binE addW (constE (.int 1)) (callF F_law_draw [(varE 0), (constE (.int 3))]))])
    (seqS (frS [1] (setS 4 (tupE [(constE (.str "rule")), (varE 1), (varE 2), (callE tupV [(lcE (.nm 18) (itJ (callF F_law_words [(varE 1), (varE 3)])) yesE (callF F_law_draw [(varE 0), (varE 1)]) [18])])])))
    (seqS (setS 5 (tupE [(callE (cF maxK) [(constE (.int 0)), (binE subW (constE (.int 0)) (varE 2))]), (callE (cF maxK) [(constE (.int 0)), (binE subW (binE addW (varE 2) (varE 3)) (constE (.int 1)))])]))
    (seqS (parS [6, 7, 8] [(callE (cF max3K) [(constE (.int 1)), (binE ixV (varE 5) (constE (.int 0))), (binE ixV (varE 5) (constE (.int 1)))]), (binE subW (callF F_law_draw [(varE 0), (constE (.int 9))]) (constE (.int 4))), (lstE [])])
    (seqS (forS (.nm 9) (rng1I (binE addW (constE (.int 1)) (callF F_law_draw [(varE 0), (constE (.int 4))]))) (seqS (appS 8 (varE 7))
    (setS 7 (binE addW (binE addW (varE 7) (varE 6)) (callF F_law_draw [(varE 0), (constE (.int 3))])))))
    (seqS (setS 10 (callE (cF repr2K) [(lstE [(varE 4), (varE 8)])]))
    (seqS (setS 11 (lstE [(lstE [(constE (.int 400))]), (lstE [(constE (.int 401))]), (lstE [(unE negV (constE (.int 400))), (constE (.int 400))]), (tupE [(unE negV (constE (.int 401)))]), (listRgE (rg3R (binE mulV (unE negV (constE (.int 4))) (varE 6)) (binE mulV (constE (.int 4)) (varE 6)) (varE 6))), (listRgE (rg3R (binE mulV (unE negV (constE (.int 4))) (varE 6)) (binE mulV (constE (.int 5)) (varE 6)) (varE 6))), (lstE [(constE (.int 0)), (varE 6)]), (lstE [(constE (.int 0)), (binE subW (varE 6) (constE (.int 1)))]), (lstE []), (constE .none), (constE (.int 0)), (constE (.str "0"))]))
    (seqS (frS [8] (forS (.nm 12) (itV (binE addW (binE addW (lstE [(varE 8), (callE tupV [(varE 8)]), (unE revV (varE 8)), (dictE [((constE (.int 0)), (constE (.int 1)))])]) (varE 11)) (lcE (.nm 9) (rng1J (constE (.int 8))) yesE (callF (F_law_bent 12) [(varE 0), (varE 8)]) [9]))) (seqS (parS [13, 14] [(callF F_law_is_cuts [(varE 5), (varE 12)]), (callE (cF repr2K) [(varE 12)])])
    (iteS (orE (binE (opF neP) (callE (cF repr2K) [(lstE [(callF F_is_cuts [(varE 4), (varE 12)]), (callKF F_is_cuts [1, 0] [(varE 12), (varE 4)])])]) (callE (cF repr2K) [(lstE [(varE 13), (varE 13)])])) (binE (opF neP) (callE (cF repr2K) [(varE 12)]) (varE 14))) (retS (constE (.bool false))) nxS))))
    (seqS (setS 15 (callF F_law_draw [(varE 0), (callE lenV [(varE 8)])]))
    (seqS (setS 16 (lstE [(tupE [(constE (.str "letter")), (varE 15), (binE addW (varE 15) (constE (.int 1))), (callF F_law_draw [(varE 0), (constE (.int 5))]), (binE mulV (tupE [(constE (.int 0))]) (binE ixV (varE 5) (constE (.int 0))))]), (tupE [(constE (.str "letter")), (binE addW (varE 15) (constE (.int 1))), (varE 15), (constE (.int 1000)), (binE mulV (tupE [(constE (.int 1))]) (binE ixV (varE 5) (constE (.int 1))))]), (tupE [(constE (.str "letter")), (varE 15), (binE addW (varE 15) (constE (.int 1))), (constE (.int 1001)), (binE mulV (tupE [(constE (.int 0))]) (binE ixV (varE 5) (constE (.int 0))))])]))
    (seqS (extS 16 (lstE [(tupE [(constE (.str "letter")), (constE (.int 0)), (constE (.int 1)), (constE (.int 0)), (tupE [])]), (tupE [(constE (.str "letter")), (constE (.int 1)), (constE (.int 0)), (constE (.int 0)), (tupE [])]), (tupE [(constE (.str "letter")), (constE (.int 0)), (constE (.int 0)), (constE (.int 0)), (tupE [(constE (.int 0))])]), (tupE [(constE (.str "letter")), (constE (.int 0)), (constE (.int 2)), (constE (.int 0)), (binE mulV (tupE [(constE (.int 0))]) (binE ixV (varE 5) (constE (.int 0))))]), (constE .none), (tupE []), (constE (.int 0)), (constE (.str "letter"))]))
    (seqS (forS (.nm 12) (itV (binE addW (varE 16) (lcE (.nm 7) (itJ (tupE [(constE (.int 0)), (constE (.int 0)), (constE (.int 0)), (constE (.int 1)), (constE (.int 1)), (constE (.int 1)), (constE (.int 0)), (constE (.int 1))])) yesE (callF (F_law_bent 12) [(varE 0), (binE ixV (varE 16) (varE 7))]) [7]))) (seqS (parS [13, 14] [(callF F_law_is_letter [(varE 1), (varE 5), (varE 8), (varE 12)]), (callE (cF repr2K) [(varE 12)])])
    (iteS (orE (binE (opF neP) (callE (cF repr2K) [(lstE [(callF F_is_letter [(varE 4), (varE 8), (varE 12)]), (callKF F_is_letter [2, 1, 0] [(varE 12), (varE 8), (varE 4)])])]) (callE (cF repr2K) [(lstE [(varE 13), (varE 13)])])) (binE (opF neP) (callE (cF repr2K) [(varE 12)]) (varE 14))) (retS (constE (.bool false))) nxS)))
    (seqS (setS 17 (lstE [(tupE [(constE (.str "go")), (varE 15)]), (tupE [(constE (.str "bring")), (varE 15), (binE addW (varE 15) (constE (.int 1))), (constE (.int 0))]), (tupE [(constE (.str "fall")), (callE lenV [(varE 8)])]), (tupE [(constE (.str "bring")), (binE addW (varE 15) (constE (.int 1))), (varE 15), (constE (.int 1000))])]))
    (seqS (setS 11 (lstE [(binE mulV (lstE [(tupE [(constE (.str "go")), (constE (.int 0))])]) (constE (.int 2000))), (binE mulV (lstE [(tupE [(constE (.str "go")), (constE (.int 0))])]) (constE (.int 2001))), (lstE [(tupE [(constE (.str "go")), (binE addW (callE lenV [(varE 8)]) (constE (.int 1)))])]), (lstE [(tupE [(constE (.str "bring")), (constE (.int 0)), (constE (.int 2)), (constE (.int 0))])]), (lstE [(tupE [(constE (.str "bring")), (constE (.int 0)), (constE (.int 0)), (constE (.int 0))])]), (lstE [(tupE [(constE (.str "bring")), (constE (.int 0)), (constE (.int 1)), (constE (.int 1001))])]), (lstE [(lstE [(constE (.str "go")), (constE (.int 0))])]), (lstE [(tupE [(constE (.str "go")), (constE (.int 0)), (constE (.int 0))])]), (lstE [(tupE [])])]))
    (seqS (frS [17] (forS (.nm 12) (itV (binE addW (binE addW (lstE [(varE 17), (callE tupV [(varE 17)]), (lstE []), (tupE []), (constE .none), (constE (.int 0)), (constE (.str "go")), dnewE]) (varE 11)) (lcE (.nm 9) (rng1J (constE (.int 14))) yesE (callF (F_law_bent 12) [(varE 0), (varE 17)]) [9]))) (seqS (parS [13, 14] [(callF F_law_is_schedule [(varE 8), (varE 12)]), (callE (cF repr2K) [(varE 12)])])
    (iteS (orE (binE (opF neP) (callE (cF repr2K) [(lstE [(callF F_is_schedule [(varE 4), (varE 8), (varE 12)]), (callKF F_is_schedule [2, 1, 0] [(varE 12), (varE 8), (varE 4)])])]) (callE (cF repr2K) [(lstE [(varE 13), (varE 13)])])) (binE (opF neP) (callE (cF repr2K) [(varE 12)]) (varE 14))) (retS (constE (.bool false))) nxS))))
    (retS (binE (opF eqP) (callE (cF repr2K) [(lstE [(varE 4), (varE 8)])]) (varE 10))))))))))))))))))
def F_law_right : Fn := defF 19 B_law_right
end

theorem shf_true (d : PyData) : Pu.shf true d = .sh d := by
  unfold Pu.shf shq
  split <;> rfl
theorem draw (p : Pot) (m : Int) (h0 : 0 < m) (h1 : m < 1073741824) : ∃ d p', F_law_draw [.pot, .sh (.int m)] p = some (.sh (.int d), p') ∧ 0 ≤ d ∧ d < m := by
  have hm : ∀ x : Int, 0 ≤ x % m ∧ x % m < m := fun x => ⟨Int.emod_nonneg _ (by omega), Int.emod_lt_of_pos _ h0⟩
  have e1 : (sm64 p.2 || sm64 40692) = true := by rw [show sm64 40692 = true from rfl, Bool.or_true]
  have e2 : posB 2147483587 = true := rfl
  have e3 : posB 2147483549 = true := rfl
  have e4 : dv30 43 = true := rfl
  have e5 : ∀ x : Int, (sm64 (x % 2147483587) || sm64 (x % 2147483587)) = true := fun x => by rw [sm64_iff.mpr ⟨by omega, by omega⟩]; rfl
  have e6 : posB m = true := posB_iff.mpr h0
  have e7 : dv30 m = true := dv30_iff.mpr ⟨h0, h1⟩
  unfold F_law_draw B_law_draw defF
  by_cases hp : 0 < p.1
  · simp only [fillSl, List.length_cons, List.length_nil, List.replicate, List.cons_append, List.nil_append, List.getElem?_cons_zero, List.getElem?_cons_succ, List.set_cons_zero, List.set_cons_succ, Nat.reduceAdd, Nat.reduceSub, Nat.reduceLT, seqS, nxS, setS, dropS, retS, iteS, retV, asg, potS, potDivS, appS, extS, unpS, parS, asgPs, asgP, asgD, asgDs, calm, binE, unE, potE, constE, varE, andE, orE, notE, ifE, tupE, lstE, slE, optE, callE, callF, callKF, methE, isiE, argsE, argsOf, datsOf, resV, newT, newL, shq, shf_true, opF, cF, addV, mulV, ixV, slV, gtK, ltK, leK, geK, subK, addK, mulK, fdivK, modK, powK, intK, absK, isiB, Val.dat, Val.items, flat, flatA, isL, Bool.and_true, Bool.true_and, Bool.false_and, Bool.and_false, if_true, if_false, Bool.false_eq_true, Option.map_some, Option.map_none, Bool.not_true, Bool.not_false, decide_true, decide_false, reduceIte, reduceCtorEq, and_self, true_and, and_true, yesE_ap, sizeLine_eq, Nat.reduceLeDiff, frS, frzL, frz1, frzS, addW, subW, boolInt, revV, tupV, listV, isi2E, setIS, dnewE, get2E, listRgE, tupRgE, rg1R, rg2R, rg3R, eqP_int, eqP_str, neP_int, neP_str, Bool.true_or, Bool.false_or, Bool.or_true, Bool.or_false, hp, h0, h1, e6, e7, decide_true, and_self]
    exact ⟨_, _, rfl, hm _⟩
  · simp only [fillSl, List.length_cons, List.length_nil, List.replicate, List.cons_append, List.nil_append, List.getElem?_cons_zero, List.getElem?_cons_succ, List.set_cons_zero, List.set_cons_succ, Nat.reduceAdd, Nat.reduceSub, Nat.reduceLT, seqS, nxS, setS, dropS, retS, iteS, retV, asg, potS, potDivS, appS, extS, unpS, parS, asgPs, asgP, asgD, asgDs, calm, binE, unE, potE, constE, varE, andE, orE, notE, ifE, tupE, lstE, slE, optE, callE, callF, callKF, methE, isiE, argsE, argsOf, datsOf, resV, newT, newL, shq, shf_true, opF, cF, addV, mulV, ixV, slV, gtK, ltK, leK, geK, subK, addK, mulK, fdivK, modK, powK, intK, absK, isiB, Val.dat, Val.items, flat, flatA, isL, Bool.and_true, Bool.true_and, Bool.false_and, Bool.and_false, if_true, if_false, Bool.false_eq_true, Option.map_some, Option.map_none, Bool.not_true, Bool.not_false, decide_true, decide_false, reduceIte, reduceCtorEq, and_self, true_and, and_true, yesE_ap, sizeLine_eq, Nat.reduceLeDiff, frS, frzL, frz1, frzS, addW, subW, boolInt, revV, tupV, listV, isi2E, setIS, dnewE, get2E, listRgE, tupRgE, rg1R, rg2R, rg3R, eqP_int, eqP_str, neP_int, neP_str, Bool.true_or, Bool.false_or, Bool.or_true, Bool.or_false, hp, e1, e2, e3, e4, e5, e6, e7, decide_false]
    exact ⟨_, _, rfl, hm _⟩
theorem pick (p : Pot) (ds : List PyData) (h0 : ds ≠ []) (h1 : ds.length < 1073741824) : ∃ d ∈ ds, ∃ p', F_law_pick [.pot, .sh (.list ds)] p = some (.sh d, p') := by
  have hl : 0 < ds.length := List.length_pos_iff.mpr h0
  obtain ⟨i, p', e, i0, i1⟩ := draw p ds.length (by omega) (by omega)
  obtain ⟨k, rfl⟩ : ∃ k : Nat, i = k := ⟨i.toNat, by omega⟩
  have hk : k < ds.length := by omega
  have ha : atI ds (k : Int) = some ds[k] := atI_nat (List.getElem?_eq_getElem hk)
  have hm : ds[k] ∈ ds := List.getElem_mem hk
  refine ⟨ds[k], hm, p', ?_⟩
  unfold F_law_pick B_law_pick defF
  generalize ds[k] = d at ha
  simp only [fillSl, List.length_cons, List.length_nil, List.replicate, List.cons_append, List.nil_append, List.getElem?_cons_zero, List.getElem?_cons_succ, List.set_cons_zero, List.set_cons_succ, Nat.reduceAdd, Nat.reduceSub, Nat.reduceLT, seqS, nxS, setS, dropS, retS, iteS, retV, asg, potS, potDivS, appS, extS, unpS, parS, asgPs, asgP, asgD, asgDs, calm, binE, unE, potE, constE, varE, andE, orE, notE, ifE, tupE, lstE, slE, optE, callE, callF, callKF, methE, isiE, argsE, argsOf, datsOf, resV, newT, newL, shq, shf_true, opF, cF, addV, mulV, ixV, slV, gtK, ltK, leK, geK, subK, addK, mulK, fdivK, modK, powK, intK, absK, isiB, Val.dat, Val.items, flat, flatA, isL, Bool.and_true, Bool.true_and, Bool.false_and, Bool.and_false, if_true, if_false, Bool.false_eq_true, Option.map_some, Option.map_none, Bool.not_true, Bool.not_false, decide_true, decide_false, reduceIte, reduceCtorEq, and_self, true_and, and_true, yesE_ap, sizeLine_eq, Nat.reduceLeDiff, frS, frzL, frz1, frzS, addW, subW, boolInt, revV, tupV, listV, isi2E, setIS, dnewE, get2E, listRgE, tupRgE, rg1R, rg2R, rg3R, eqP_int, eqP_str, neP_int, neP_str, Bool.true_or, Bool.false_or, Bool.or_true, Bool.or_false, lenV, e, ha]
theorem is_integer (d : PyData) (p : Pot) : F_is_integer [.sh d] p = some (.sh (.bool (match d with | .int _ => true | _ => false)), p) := by
  unfold F_is_integer B_is_integer defF
  cases d <;> simp only [fillSl, List.length_cons, List.length_nil, List.replicate, List.cons_append, List.nil_append, List.getElem?_cons_zero, List.getElem?_cons_succ, List.set_cons_zero, List.set_cons_succ, Nat.reduceAdd, Nat.reduceSub, Nat.reduceLT, seqS, nxS, setS, dropS, retS, iteS, retV, asg, potS, potDivS, appS, extS, unpS, parS, asgPs, asgP, asgD, asgDs, calm, binE, unE, potE, constE, varE, andE, orE, notE, ifE, tupE, lstE, slE, optE, callE, callF, callKF, methE, isiE, argsE, argsOf, datsOf, resV, newT, newL, shq, shf_true, opF, cF, addV, mulV, ixV, slV, gtK, ltK, leK, geK, subK, addK, mulK, fdivK, modK, powK, intK, absK, isiB, Val.dat, Val.items, flat, flatA, isL, Bool.and_true, Bool.true_and, Bool.false_and, Bool.and_false, if_true, if_false, Bool.false_eq_true, Option.map_some, Option.map_none, Bool.not_true, Bool.not_false, decide_true, decide_false, reduceIte, reduceCtorEq, and_self, true_and, and_true, yesE_ap, sizeLine_eq, Nat.reduceLeDiff, frS, frzL, frz1, frzS, addW, subW, boolInt, revV, tupV, listV, isi2E, setIS, dnewE, get2E, listRgE, tupRgE, rg1R, rg2R, rg3R, eqP_int, eqP_str, neP_int, neP_str, Bool.true_or, Bool.false_or, Bool.or_true, Bool.or_false]
theorem is_within (d : PyData) (lo hi : Int) (p : Pot) : F_is_within [.sh d, .sh (.int lo), .sh (.int hi)] p = some (.sh (.bool (wh d lo hi)), p) := by
  have e := is_integer d p
  unfold F_is_within B_is_within defF
  cases d with
  | int i =>
    by_cases h1 : lo ≤ i
    · by_cases h2 : i ≤ hi
      · simp only [fillSl, List.length_cons, List.length_nil, List.replicate, List.cons_append, List.nil_append, List.getElem?_cons_zero, List.getElem?_cons_succ, List.set_cons_zero, List.set_cons_succ, Nat.reduceAdd, Nat.reduceSub, Nat.reduceLT, seqS, nxS, setS, dropS, retS, iteS, retV, asg, potS, potDivS, appS, extS, unpS, parS, asgPs, asgP, asgD, asgDs, calm, binE, unE, potE, constE, varE, andE, orE, notE, ifE, tupE, lstE, slE, optE, callE, callF, callKF, methE, isiE, argsE, argsOf, datsOf, resV, newT, newL, shq, shf_true, opF, cF, addV, mulV, ixV, slV, gtK, ltK, leK, geK, subK, addK, mulK, fdivK, modK, powK, intK, absK, isiB, Val.dat, Val.items, flat, flatA, isL, Bool.and_true, Bool.true_and, Bool.false_and, Bool.and_false, if_true, if_false, Bool.false_eq_true, Option.map_some, Option.map_none, Bool.not_true, Bool.not_false, decide_true, decide_false, reduceIte, reduceCtorEq, and_self, true_and, and_true, yesE_ap, sizeLine_eq, Nat.reduceLeDiff, frS, frzL, frz1, frzS, addW, subW, boolInt, revV, tupV, listV, isi2E, setIS, dnewE, get2E, listRgE, tupRgE, rg1R, rg2R, rg3R, eqP_int, eqP_str, neP_int, neP_str, Bool.true_or, Bool.false_or, Bool.or_true, Bool.or_false, e, chainE, wh, h1, h2]
      · simp only [fillSl, List.length_cons, List.length_nil, List.replicate, List.cons_append, List.nil_append, List.getElem?_cons_zero, List.getElem?_cons_succ, List.set_cons_zero, List.set_cons_succ, Nat.reduceAdd, Nat.reduceSub, Nat.reduceLT, seqS, nxS, setS, dropS, retS, iteS, retV, asg, potS, potDivS, appS, extS, unpS, parS, asgPs, asgP, asgD, asgDs, calm, binE, unE, potE, constE, varE, andE, orE, notE, ifE, tupE, lstE, slE, optE, callE, callF, callKF, methE, isiE, argsE, argsOf, datsOf, resV, newT, newL, shq, shf_true, opF, cF, addV, mulV, ixV, slV, gtK, ltK, leK, geK, subK, addK, mulK, fdivK, modK, powK, intK, absK, isiB, Val.dat, Val.items, flat, flatA, isL, Bool.and_true, Bool.true_and, Bool.false_and, Bool.and_false, if_true, if_false, Bool.false_eq_true, Option.map_some, Option.map_none, Bool.not_true, Bool.not_false, decide_true, decide_false, reduceIte, reduceCtorEq, and_self, true_and, and_true, yesE_ap, sizeLine_eq, Nat.reduceLeDiff, frS, frzL, frz1, frzS, addW, subW, boolInt, revV, tupV, listV, isi2E, setIS, dnewE, get2E, listRgE, tupRgE, rg1R, rg2R, rg3R, eqP_int, eqP_str, neP_int, neP_str, Bool.true_or, Bool.false_or, Bool.or_true, Bool.or_false, e, chainE, wh, h1, h2]
    · simp only [fillSl, List.length_cons, List.length_nil, List.replicate, List.cons_append, List.nil_append, List.getElem?_cons_zero, List.getElem?_cons_succ, List.set_cons_zero, List.set_cons_succ, Nat.reduceAdd, Nat.reduceSub, Nat.reduceLT, seqS, nxS, setS, dropS, retS, iteS, retV, asg, potS, potDivS, appS, extS, unpS, parS, asgPs, asgP, asgD, asgDs, calm, binE, unE, potE, constE, varE, andE, orE, notE, ifE, tupE, lstE, slE, optE, callE, callF, callKF, methE, isiE, argsE, argsOf, datsOf, resV, newT, newL, shq, shf_true, opF, cF, addV, mulV, ixV, slV, gtK, ltK, leK, geK, subK, addK, mulK, fdivK, modK, powK, intK, absK, isiB, Val.dat, Val.items, flat, flatA, isL, Bool.and_true, Bool.true_and, Bool.false_and, Bool.and_false, if_true, if_false, Bool.false_eq_true, Option.map_some, Option.map_none, Bool.not_true, Bool.not_false, decide_true, decide_false, reduceIte, reduceCtorEq, and_self, true_and, and_true, yesE_ap, sizeLine_eq, Nat.reduceLeDiff, frS, frzL, frz1, frzS, addW, subW, boolInt, revV, tupV, listV, isi2E, setIS, dnewE, get2E, listRgE, tupRgE, rg1R, rg2R, rg3R, eqP_int, eqP_str, neP_int, neP_str, Bool.true_or, Bool.false_or, Bool.or_true, Bool.or_false, e, chainE, wh, h1]
  | _ => simp only [fillSl, List.length_cons, List.length_nil, List.replicate, List.cons_append, List.nil_append, List.getElem?_cons_zero, List.getElem?_cons_succ, List.set_cons_zero, List.set_cons_succ, Nat.reduceAdd, Nat.reduceSub, Nat.reduceLT, seqS, nxS, setS, dropS, retS, iteS, retV, asg, potS, potDivS, appS, extS, unpS, parS, asgPs, asgP, asgD, asgDs, calm, binE, unE, potE, constE, varE, andE, orE, notE, ifE, tupE, lstE, slE, optE, callE, callF, callKF, methE, isiE, argsE, argsOf, datsOf, resV, newT, newL, shq, shf_true, opF, cF, addV, mulV, ixV, slV, gtK, ltK, leK, geK, subK, addK, mulK, fdivK, modK, powK, intK, absK, isiB, Val.dat, Val.items, flat, flatA, isL, Bool.and_true, Bool.true_and, Bool.false_and, Bool.and_false, if_true, if_false, Bool.false_eq_true, Option.map_some, Option.map_none, Bool.not_true, Bool.not_false, decide_true, decide_false, reduceIte, reduceCtorEq, and_self, true_and, and_true, yesE_ap, sizeLine_eq, Nat.reduceLeDiff, frS, frzL, frz1, frzS, addW, subW, boolInt, revV, tupV, listV, isi2E, setIS, dnewE, get2E, listRgE, tupRgE, rg1R, rg2R, rg3R, eqP_int, eqP_str, neP_int, neP_str, Bool.true_or, Bool.false_or, Bool.or_true, Bool.or_false, e, wh]
theorem law_is_whole (d : PyData) (lo hi : Int) (p : Pot) : F_law_is_whole [.sh d, .sh (.int lo), .sh (.int hi)] p = some (.sh (.bool (wh d lo hi)), p) := by
  unfold F_law_is_whole B_law_is_whole defF
  cases d with
  | int i =>
    by_cases h1 : lo ≤ i
    · by_cases h2 : i ≤ hi
      · simp only [fillSl, List.length_cons, List.length_nil, List.replicate, List.cons_append, List.nil_append, List.getElem?_cons_zero, List.getElem?_cons_succ, List.set_cons_zero, List.set_cons_succ, Nat.reduceAdd, Nat.reduceSub, Nat.reduceLT, seqS, nxS, setS, dropS, retS, iteS, retV, asg, potS, potDivS, appS, extS, unpS, parS, asgPs, asgP, asgD, asgDs, calm, binE, unE, potE, constE, varE, andE, orE, notE, ifE, tupE, lstE, slE, optE, callE, callF, callKF, methE, isiE, argsE, argsOf, datsOf, resV, newT, newL, shq, shf_true, opF, cF, addV, mulV, ixV, slV, gtK, ltK, leK, geK, subK, addK, mulK, fdivK, modK, powK, intK, absK, isiB, Val.dat, Val.items, flat, flatA, isL, Bool.and_true, Bool.true_and, Bool.false_and, Bool.and_false, if_true, if_false, Bool.false_eq_true, Option.map_some, Option.map_none, Bool.not_true, Bool.not_false, decide_true, decide_false, reduceIte, reduceCtorEq, and_self, true_and, and_true, yesE_ap, sizeLine_eq, Nat.reduceLeDiff, frS, frzL, frz1, frzS, addW, subW, boolInt, revV, tupV, listV, isi2E, setIS, dnewE, get2E, listRgE, tupRgE, rg1R, rg2R, rg3R, eqP_int, eqP_str, neP_int, neP_str, Bool.true_or, Bool.false_or, Bool.or_true, Bool.or_false, chainE, wh, h1, h2]
      · simp only [fillSl, List.length_cons, List.length_nil, List.replicate, List.cons_append, List.nil_append, List.getElem?_cons_zero, List.getElem?_cons_succ, List.set_cons_zero, List.set_cons_succ, Nat.reduceAdd, Nat.reduceSub, Nat.reduceLT, seqS, nxS, setS, dropS, retS, iteS, retV, asg, potS, potDivS, appS, extS, unpS, parS, asgPs, asgP, asgD, asgDs, calm, binE, unE, potE, constE, varE, andE, orE, notE, ifE, tupE, lstE, slE, optE, callE, callF, callKF, methE, isiE, argsE, argsOf, datsOf, resV, newT, newL, shq, shf_true, opF, cF, addV, mulV, ixV, slV, gtK, ltK, leK, geK, subK, addK, mulK, fdivK, modK, powK, intK, absK, isiB, Val.dat, Val.items, flat, flatA, isL, Bool.and_true, Bool.true_and, Bool.false_and, Bool.and_false, if_true, if_false, Bool.false_eq_true, Option.map_some, Option.map_none, Bool.not_true, Bool.not_false, decide_true, decide_false, reduceIte, reduceCtorEq, and_self, true_and, and_true, yesE_ap, sizeLine_eq, Nat.reduceLeDiff, frS, frzL, frz1, frzS, addW, subW, boolInt, revV, tupV, listV, isi2E, setIS, dnewE, get2E, listRgE, tupRgE, rg1R, rg2R, rg3R, eqP_int, eqP_str, neP_int, neP_str, Bool.true_or, Bool.false_or, Bool.or_true, Bool.or_false, chainE, wh, h1, h2]
    · simp only [fillSl, List.length_cons, List.length_nil, List.replicate, List.cons_append, List.nil_append, List.getElem?_cons_zero, List.getElem?_cons_succ, List.set_cons_zero, List.set_cons_succ, Nat.reduceAdd, Nat.reduceSub, Nat.reduceLT, seqS, nxS, setS, dropS, retS, iteS, retV, asg, potS, potDivS, appS, extS, unpS, parS, asgPs, asgP, asgD, asgDs, calm, binE, unE, potE, constE, varE, andE, orE, notE, ifE, tupE, lstE, slE, optE, callE, callF, callKF, methE, isiE, argsE, argsOf, datsOf, resV, newT, newL, shq, shf_true, opF, cF, addV, mulV, ixV, slV, gtK, ltK, leK, geK, subK, addK, mulK, fdivK, modK, powK, intK, absK, isiB, Val.dat, Val.items, flat, flatA, isL, Bool.and_true, Bool.true_and, Bool.false_and, Bool.and_false, if_true, if_false, Bool.false_eq_true, Option.map_some, Option.map_none, Bool.not_true, Bool.not_false, decide_true, decide_false, reduceIte, reduceCtorEq, and_self, true_and, and_true, yesE_ap, sizeLine_eq, Nat.reduceLeDiff, frS, frzL, frz1, frzS, addW, subW, boolInt, revV, tupV, listV, isi2E, setIS, dnewE, get2E, listRgE, tupRgE, rg1R, rg2R, rg3R, eqP_int, eqP_str, neP_int, neP_str, Bool.true_or, Bool.false_or, Bool.or_true, Bool.or_false, chainE, wh, h1]
  | _ => simp only [fillSl, List.length_cons, List.length_nil, List.replicate, List.cons_append, List.nil_append, List.getElem?_cons_zero, List.getElem?_cons_succ, List.set_cons_zero, List.set_cons_succ, Nat.reduceAdd, Nat.reduceSub, Nat.reduceLT, seqS, nxS, setS, dropS, retS, iteS, retV, asg, potS, potDivS, appS, extS, unpS, parS, asgPs, asgP, asgD, asgDs, calm, binE, unE, potE, constE, varE, andE, orE, notE, ifE, tupE, lstE, slE, optE, callE, callF, callKF, methE, isiE, argsE, argsOf, datsOf, resV, newT, newL, shq, shf_true, opF, cF, addV, mulV, ixV, slV, gtK, ltK, leK, geK, subK, addK, mulK, fdivK, modK, powK, intK, absK, isiB, Val.dat, Val.items, flat, flatA, isL, Bool.and_true, Bool.true_and, Bool.false_and, Bool.and_false, if_true, if_false, Bool.false_eq_true, Option.map_some, Option.map_none, Bool.not_true, Bool.not_false, decide_true, decide_false, reduceIte, reduceCtorEq, and_self, true_and, and_true, yesE_ap, sizeLine_eq, Nat.reduceLeDiff, frS, frzL, frz1, frzS, addW, subW, boolInt, revV, tupV, listV, isi2E, setIS, dnewE, get2E, listRgE, tupRgE, rg1R, rg2R, rg3R, eqP_int, eqP_str, neP_int, neP_str, Bool.true_or, Bool.false_or, Bool.or_true, Bool.or_false, wh]
theorem pow_loop (b : Int) (sn : Slot) (p : Pot) (hb : sm64 b = true) : ∀ (ds : List PyData) (a : Int) (x : Slot), ∃ x', forL (.nm 3) (setS 2 (binE mulV (varE 2) (varE 0))) ds [.sh (.int b), sn, .sh (.int a), x] p = some (.nx [.sh (.int b), sn, .sh (.int (a * b ^ ds.length)), x'] p) := by
  intro ds
  induction ds with
  | nil =>
    intro a x
    exact ⟨x, by rw [List.length_nil, Int.pow_zero, Int.mul_one]; rfl⟩
  | cons d ds ih =>
    intro a x
    obtain ⟨x', e⟩ := ih (a * b) (.sh d)
    refine ⟨x', ?_⟩
    unfold forL
    have hm : (sm64 a || sm64 b) = true := by rw [hb, Bool.or_true]
    simp only [fillSl, List.length_cons, List.length_nil, List.replicate, List.cons_append, List.nil_append, List.getElem?_cons_zero, List.getElem?_cons_succ, List.set_cons_zero, List.set_cons_succ, Nat.reduceAdd, Nat.reduceSub, Nat.reduceLT, seqS, nxS, setS, dropS, retS, iteS, retV, asg, potS, potDivS, appS, extS, unpS, parS, asgPs, asgP, asgD, asgDs, calm, binE, unE, potE, constE, varE, andE, orE, notE, ifE, tupE, lstE, slE, optE, callE, callF, callKF, methE, isiE, argsE, argsOf, datsOf, resV, newT, newL, shq, shf_true, opF, cF, addV, mulV, ixV, slV, gtK, ltK, leK, geK, subK, addK, mulK, fdivK, modK, powK, intK, absK, isiB, Val.dat, Val.items, flat, flatA, isL, Bool.and_true, Bool.true_and, Bool.false_and, Bool.and_false, if_true, if_false, Bool.false_eq_true, Option.map_some, Option.map_none, Bool.not_true, Bool.not_false, decide_true, decide_false, reduceIte, reduceCtorEq, and_self, true_and, and_true, yesE_ap, sizeLine_eq, Nat.reduceLeDiff, frS, frzL, frz1, frzS, addW, subW, boolInt, revV, tupV, listV, isi2E, setIS, dnewE, get2E, listRgE, tupRgE, rg1R, rg2R, rg3R, eqP_int, eqP_str, neP_int, neP_str, Bool.true_or, Bool.false_or, Bool.or_true, Bool.or_false, hm]
    rw [e, Int.pow_succ, Int.mul_assoc, Int.mul_comm b]
theorem rng_at (sb : Slot) (n : Nat) (r : Sl) (p : Pot) (hr : sm62 (n : Int) = true) : rng1I (varE 1) (sb :: .sh (.int n) :: r) p = some (rangeD 0 n, sb :: .sh (.int n) :: r, p) := by
  have e1 : varE 1 (sb :: .sh (.int n) :: r) p = some (.sh (.int n), p) := rfl
  unfold rng1I
  rw [e1]
  dsimp only
  rw [if_pos hr, Int.toNat_natCast]
end K94
namespace K94
open PySem PySem.Spec PyProof.Rows L2 Pu
theorem powN (b : Int) (n : Nat) (p : Pot) (h1 : -9 ≤ b ∧ b ≤ 9) (h2 : n ≤ 99) : F_power_by [.sh (.int b), .sh (.int n)] p = some (.sh (.int (b ^ n)), p) := by
  have hb : sm64 b = true := sm64_iff.mpr ⟨by omega, by omega⟩
  have hr : sm62 (n : Int) = true := sm62_nat (by omega)
  obtain ⟨x', e⟩ := pow_loop b (.sh (.int n)) p hb (rangeD 0 n) 1 .un
  have er := rng_at (.sh (.int b)) n [.sh (.int 1), .un] p hr
  rw [rng_len, Int.one_mul] at e
  unfold F_power_by B_power_by defF
  simp only [fillSl, List.length_cons, List.length_nil, List.replicate, List.cons_append, List.nil_append, List.getElem?_cons_zero, List.getElem?_cons_succ, List.set_cons_zero, List.set_cons_succ, Nat.reduceAdd, Nat.reduceSub, Nat.reduceLT, seqS, nxS, setS, dropS, retS, iteS, retV, asg, potS, potDivS, appS, extS, unpS, parS, asgPs, asgP, asgD, asgDs, calm, binE, unE, potE, constE, varE, andE, orE, notE, ifE, tupE, lstE, slE, optE, callE, callF, callKF, methE, isiE, argsE, argsOf, datsOf, resV, newT, newL, shq, shf_true, opF, cF, addV, mulV, ixV, slV, gtK, ltK, leK, geK, subK, addK, mulK, fdivK, modK, powK, intK, absK, isiB, Val.dat, Val.items, flat, flatA, isL, Bool.and_true, Bool.true_and, Bool.false_and, Bool.and_false, if_true, if_false, Bool.false_eq_true, Option.map_some, Option.map_none, Bool.not_true, Bool.not_false, decide_true, decide_false, reduceIte, reduceCtorEq, and_self, true_and, and_true, yesE_ap, sizeLine_eq, Nat.reduceLeDiff, frS, frzL, frz1, frzS, addW, subW, boolInt, revV, tupV, listV, isi2E, setIS, dnewE, get2E, listRgE, tupRgE, rg1R, rg2R, rg3R, eqP_int, eqP_str, neP_int, neP_str, Bool.true_or, Bool.false_or, Bool.or_true, Bool.or_false, forS, er, e]
end K94
namespace K94
open PySem PySem.Spec PyProof.Rows L2 Pu
/-- a rule -/
def rl (s low : Int) (tb : List PyData) : PyData := .tuple [.str "rule", .int s, .int low, .tuple tb]
def wordB (s : Int) (d : PyData) : Bool := match d with
  | .tuple ds => ds.all fun d => wh d 0 (s - 1)
  | _ => false
structure Rule (S W : Nat) (low : Int) (tb : List PyData) : Prop where
  s2 : 2 ≤ S
  s8 : S ≤ 8
  w1 : 1 ≤ W
  w12 : W ≤ 12
  len : tb.length = S ^ W
  most : S ^ W ≤ 4096
  lo : -100 ≤ low
  hi : low ≤ 100 - W + 1
  word : (tb.all fun d => wh d 0 ((S : Int) - 1)) = true
theorem atI0 {α : Type} (a : α) (l : List α) : atI (a :: l) 0 = some a := atI_nat (j := 0) rfl
theorem atI1 {α : Type} (a b : α) (l : List α) : atI (a :: b :: l) 1 = some b := atI_nat (j := 1) rfl
theorem atI2 {α : Type} (a b c : α) (l : List α) : atI (a :: b :: c :: l) 2 = some c := atI_nat (j := 2) rfl
theorem atI3 {α : Type} (a b c d : α) (l : List α) : atI (a :: b :: c :: d :: l) 3 = some d := atI_nat (j := 3) rfl
theorem atI4 {α : Type} (a b c d e : α) (l : List α) : atI (a :: b :: c :: d :: e :: l) 4 = some e := atI_nat (j := 4) rfl
section
variable {S W : Nat} {low : Int} {tb : List PyData} (R : Rule S W low tb)
include R
theorem width_loop (p : Pot) : ∀ (m k : Nat), k + m = W → whileS (binE (opF ltK) (callF F_power_by [(binE ixV (varE 0) (constE (.int 1))), (varE 1)]) (callE lenV [(binE ixV (varE 0) (constE (.int 3)))])) (setS 1 (binE addW (varE 1) (constE (.int 1)))) [.sh (rl S low tb), .sh (.int k)] p = some (.nx [.sh (rl S low tb), .sh (.int W)] p) := by
  intro m
  induction m with
  | zero =>
    intro k hk
    have hk' : k = W := by omega
    subst hk'
    have e := powN (S : Int) k p ⟨by have := R.s2; omega, by have := R.s8; omega⟩ (by have := R.w12; omega)
    have hc : ¬ ((S : Int) ^ k < (tb.length : Int)) := by rw [R.len, Int.natCast_pow]; exact Int.lt_irrefl _
    rw [whileS_eq]
    unfold rl
    simp only [fillSl, List.length_cons, List.length_nil, List.replicate, List.cons_append, List.nil_append, List.getElem?_cons_zero, List.getElem?_cons_succ, List.set_cons_zero, List.set_cons_succ, Nat.reduceAdd, Nat.reduceSub, Nat.reduceLT, seqS, nxS, setS, dropS, retS, iteS, retV, asg, potS, potDivS, appS, extS, unpS, parS, asgPs, asgP, asgD, asgDs, calm, binE, unE, potE, constE, varE, andE, orE, notE, ifE, tupE, lstE, slE, optE, callE, callF, callKF, methE, isiE, argsE, argsOf, datsOf, resV, newT, newL, shq, shf_true, opF, cF, addV, mulV, ixV, slV, gtK, ltK, leK, geK, subK, addK, mulK, fdivK, modK, powK, intK, absK, isiB, Val.dat, Val.items, flat, flatA, isL, Bool.and_true, Bool.true_and, Bool.false_and, Bool.and_false, if_true, if_false, Bool.false_eq_true, Option.map_some, Option.map_none, Bool.not_true, Bool.not_false, decide_true, decide_false, reduceIte, reduceCtorEq, and_self, true_and, and_true, yesE_ap, sizeLine_eq, Nat.reduceLeDiff, frS, frzL, frz1, frzS, addW, subW, boolInt, revV, tupV, listV, isi2E, setIS, dnewE, get2E, listRgE, tupRgE, rg1R, rg2R, rg3R, eqP_int, eqP_str, neP_int, neP_str, Bool.true_or, Bool.false_or, Bool.or_true, Bool.or_false, atI1, atI3, lenV, e, hc, shf_true]
  | succ m ih =>
    intro k hk
    have e := powN (S : Int) k p ⟨by have := R.s2; omega, by have := R.s8; omega⟩ (by have := R.w12; omega)
    have hlt : S ^ k < S ^ W := Nat.pow_lt_pow_right (by have := R.s2; omega) (by omega)
    have hc : (S : Int) ^ k < (tb.length : Int) := by rw [R.len, ← Int.natCast_pow]; exact Int.ofNat_lt.mpr hlt
    have ih' := ih (k + 1) (by omega)
    rw [whileS_eq]
    unfold rl at ih' ⊢
    simp only [fillSl, List.length_cons, List.length_nil, List.replicate, List.cons_append, List.nil_append, List.getElem?_cons_zero, List.getElem?_cons_succ, List.set_cons_zero, List.set_cons_succ, Nat.reduceAdd, Nat.reduceSub, Nat.reduceLT, seqS, nxS, setS, dropS, retS, iteS, retV, asg, potS, potDivS, appS, extS, unpS, parS, asgPs, asgP, asgD, asgDs, calm, binE, unE, potE, constE, varE, andE, orE, notE, ifE, tupE, lstE, slE, optE, callE, callF, callKF, methE, isiE, argsE, argsOf, datsOf, resV, newT, newL, shq, shf_true, opF, cF, addV, mulV, ixV, slV, gtK, ltK, leK, geK, subK, addK, mulK, fdivK, modK, powK, intK, absK, isiB, Val.dat, Val.items, flat, flatA, isL, Bool.and_true, Bool.true_and, Bool.false_and, Bool.and_false, if_true, if_false, Bool.false_eq_true, Option.map_some, Option.map_none, Bool.not_true, Bool.not_false, decide_true, decide_false, reduceIte, reduceCtorEq, and_self, true_and, and_true, yesE_ap, sizeLine_eq, Nat.reduceLeDiff, frS, frzL, frz1, frzS, addW, subW, boolInt, revV, tupV, listV, isi2E, setIS, dnewE, get2E, listRgE, tupRgE, rg1R, rg2R, rg3R, eqP_int, eqP_str, neP_int, neP_str, Bool.true_or, Bool.false_or, Bool.or_true, Bool.or_false, atI1, atI3, lenV, e, hc, shf_true]
    exact ih'
theorem width_in (p : Pot) : F_width_in [.sh (rl S low tb)] p = some (.sh (.int W), p) := by
  have e := width_loop R p (W - 1) 1 (by have := R.w1; omega)
  unfold F_width_in B_width_in defF
  unfold rl at e ⊢
  have e1 : ((1 : Nat) : Int) = 1 := rfl
  rw [e1] at e
  generalize whileS (binE (opF ltK) (callF F_power_by [(binE ixV (varE 0) (constE (.int 1))), (varE 1)]) (callE lenV [(binE ixV (varE 0) (constE (.int 3)))])) (setS 1 (binE addW (varE 1) (constE (.int 1)))) = B at e ⊢
  simp only [fillSl, List.length_cons, List.length_nil, List.replicate, List.cons_append, List.nil_append, List.getElem?_cons_zero, List.getElem?_cons_succ, List.set_cons_zero, List.set_cons_succ, Nat.reduceAdd, Nat.reduceSub, Nat.reduceLT, seqS, nxS, setS, dropS, retS, iteS, retV, asg, potS, potDivS, appS, extS, unpS, parS, asgPs, asgP, asgD, asgDs, calm, binE, unE, potE, constE, varE, andE, orE, notE, ifE, tupE, lstE, slE, optE, callE, callF, callKF, methE, isiE, argsE, argsOf, datsOf, resV, newT, newL, shq, shf_true, opF, cF, addV, mulV, ixV, slV, gtK, ltK, leK, geK, subK, addK, mulK, fdivK, modK, powK, intK, absK, isiB, Val.dat, Val.items, flat, flatA, isL, Bool.and_true, Bool.true_and, Bool.false_and, Bool.and_false, if_true, if_false, Bool.false_eq_true, Option.map_some, Option.map_none, Bool.not_true, Bool.not_false, decide_true, decide_false, reduceIte, reduceCtorEq, and_self, true_and, and_true, yesE_ap, sizeLine_eq, Nat.reduceLeDiff, frS, frzL, frz1, frzS, addW, subW, boolInt, revV, tupV, listV, isi2E, setIS, dnewE, get2E, listRgE, tupRgE, rg1R, rg2R, rg3R, eqP_int, eqP_str, neP_int, neP_str, Bool.true_or, Bool.false_or, Bool.or_true, Bool.or_false, e]
end
theorem word_of (s : Int) (d : PyData) (p : Pot) (hl : ∀ ds, d = .tuple ds → ds.length ≤ 16777216) : F_is_word_of [.sh (.int s), .sh d] p = some (.sh (.bool (wordB s d)), p) := by
  unfold F_is_word_of B_is_word_of defF
  cases d with
  | tuple ds =>
    have hl := hl ds rfl
    have hc := compL_map (t := .nm 2) (fe := callF F_is_within [(varE 2), (constE (.int 0)), (binE subW (varE 0) (constE (.int 1)))]) (sl := [.sh (.int s), .sh (.tuple ds), .un]) (fun d => .bool (wh d 0 (s - 1))) ds
      (fun d _ => ⟨_, rfl, fun p => ⟨.sh (.bool (wh d 0 (s - 1))), by simp only [fillSl, List.length_cons, List.length_nil, List.replicate, List.cons_append, List.nil_append, List.getElem?_cons_zero, List.getElem?_cons_succ, List.set_cons_zero, List.set_cons_succ, Nat.reduceAdd, Nat.reduceSub, Nat.reduceLT, seqS, nxS, setS, dropS, retS, iteS, retV, asg, potS, potDivS, appS, extS, unpS, parS, asgPs, asgP, asgD, asgDs, calm, binE, unE, potE, constE, varE, andE, orE, notE, ifE, tupE, lstE, slE, optE, callE, callF, callKF, methE, isiE, argsE, argsOf, datsOf, resV, newT, newL, shq, shf_true, opF, cF, addV, mulV, ixV, slV, gtK, ltK, leK, geK, subK, addK, mulK, fdivK, modK, powK, intK, absK, isiB, Val.dat, Val.items, flat, flatA, isL, Bool.and_true, Bool.true_and, Bool.false_and, Bool.and_false, if_true, if_false, Bool.false_eq_true, Option.map_some, Option.map_none, Bool.not_true, Bool.not_false, decide_true, decide_false, reduceIte, reduceCtorEq, and_self, true_and, and_true, yesE_ap, sizeLine_eq, Nat.reduceLeDiff, frS, frzL, frz1, frzS, addW, subW, boolInt, revV, tupV, listV, isi2E, setIS, dnewE, get2E, listRgE, tupRgE, rg1R, rg2R, rg3R, eqP_int, eqP_str, neP_int, neP_str, Bool.true_or, Bool.false_or, Bool.or_true, Bool.or_false, is_within], rfl⟩⟩) p
    simp only [fillSl, List.length_cons, List.length_nil, List.replicate, List.cons_append, List.nil_append, List.getElem?_cons_zero, List.getElem?_cons_succ, List.set_cons_zero, List.set_cons_succ, Nat.reduceAdd, Nat.reduceSub, Nat.reduceLT, seqS, nxS, setS, dropS, retS, iteS, retV, asg, potS, potDivS, appS, extS, unpS, parS, asgPs, asgP, asgD, asgDs, calm, binE, unE, potE, constE, varE, andE, orE, notE, ifE, tupE, lstE, slE, optE, callE, callF, callKF, methE, isiE, argsE, argsOf, datsOf, resV, newT, newL, shq, shf_true, opF, cF, addV, mulV, ixV, slV, gtK, ltK, leK, geK, subK, addK, mulK, fdivK, modK, powK, intK, absK, isiB, Val.dat, Val.items, flat, flatA, isL, Bool.and_true, Bool.true_and, Bool.false_and, Bool.and_false, if_true, if_false, Bool.false_eq_true, Option.map_some, Option.map_none, Bool.not_true, Bool.not_false, decide_true, decide_false, reduceIte, reduceCtorEq, and_self, true_and, and_true, yesE_ap, sizeLine_eq, Nat.reduceLeDiff, frS, frzL, frz1, frzS, addW, subW, boolInt, revV, tupV, listV, isi2E, setIS, dnewE, get2E, listRgE, tupRgE, rg1R, rg2R, rg3R, eqP_int, eqP_str, neP_int, neP_str, Bool.true_or, Bool.false_or, Bool.or_true, Bool.or_false, lcE, itJ, wipeSl, hc, List.length_map, hl, all_bools, wordB]
  | _ => simp only [fillSl, List.length_cons, List.length_nil, List.replicate, List.cons_append, List.nil_append, List.getElem?_cons_zero, List.getElem?_cons_succ, List.set_cons_zero, List.set_cons_succ, Nat.reduceAdd, Nat.reduceSub, Nat.reduceLT, seqS, nxS, setS, dropS, retS, iteS, retV, asg, potS, potDivS, appS, extS, unpS, parS, asgPs, asgP, asgD, asgDs, calm, binE, unE, potE, constE, varE, andE, orE, notE, ifE, tupE, lstE, slE, optE, callE, callF, callKF, methE, isiE, argsE, argsOf, datsOf, resV, newT, newL, shq, shf_true, opF, cF, addV, mulV, ixV, slV, gtK, ltK, leK, geK, subK, addK, mulK, fdivK, modK, powK, intK, absK, isiB, Val.dat, Val.items, flat, flatA, isL, Bool.and_true, Bool.true_and, Bool.false_and, Bool.and_false, if_true, if_false, Bool.false_eq_true, Option.map_some, Option.map_none, Bool.not_true, Bool.not_false, decide_true, decide_false, reduceIte, reduceCtorEq, and_self, true_and, and_true, yesE_ap, sizeLine_eq, Nat.reduceLeDiff, frS, frzL, frz1, frzS, addW, subW, boolInt, revV, tupV, listV, isi2E, setIS, dnewE, get2E, listRgE, tupRgE, rg1R, rg2R, rg3R, eqP_int, eqP_str, neP_int, neP_str, Bool.true_or, Bool.false_or, Bool.or_true, Bool.or_false, wordB]
section
variable {S W : Nat} {low : Int} {tb : List PyData} (R : Rule S W low tb)
include R
theorem is_near (p : Pot) : F_is_near [.sh (rl S low tb)] p = some (.sh (.bool true), p) := by
  have e := width_in R p
  have h1 := R.lo
  have h2 : low ≤ 100 - (W : Int) + 1 := R.hi
  unfold F_is_near B_is_near defF
  unfold rl at e ⊢
  simp only [fillSl, List.length_cons, List.length_nil, List.replicate, List.cons_append, List.nil_append, List.getElem?_cons_zero, List.getElem?_cons_succ, List.set_cons_zero, List.set_cons_succ, Nat.reduceAdd, Nat.reduceSub, Nat.reduceLT, seqS, nxS, setS, dropS, retS, iteS, retV, asg, potS, potDivS, appS, extS, unpS, parS, asgPs, asgP, asgD, asgDs, calm, binE, unE, potE, constE, varE, andE, orE, notE, ifE, tupE, lstE, slE, optE, callE, callF, callKF, methE, isiE, argsE, argsOf, datsOf, resV, newT, newL, shq, shf_true, opF, cF, addV, mulV, ixV, slV, gtK, ltK, leK, geK, subK, addK, mulK, fdivK, modK, powK, intK, absK, isiB, Val.dat, Val.items, flat, flatA, isL, Bool.and_true, Bool.true_and, Bool.false_and, Bool.and_false, if_true, if_false, Bool.false_eq_true, Option.map_some, Option.map_none, Bool.not_true, Bool.not_false, decide_true, decide_false, reduceIte, reduceCtorEq, and_self, true_and, and_true, yesE_ap, sizeLine_eq, Nat.reduceLeDiff, frS, frzL, frz1, frzS, addW, subW, boolInt, revV, tupV, listV, isi2E, setIS, dnewE, get2E, listRgE, tupRgE, rg1R, rg2R, rg3R, eqP_int, eqP_str, neP_int, neP_str, Bool.true_or, Bool.false_or, Bool.or_true, Bool.or_false, chainE, negV, e, atI2, h1, h2, shf_true]
theorem rule_any (p : Pot) : F_is_rule_any [.sh (rl S low tb)] p = some (.sh (.bool true), p) := by
  have e := width_in R p
  have e2 := is_near R p
  have e3 := powN (S : Int) W p ⟨by have := R.s2; omega, by have := R.s8; omega⟩ (by have := R.w12; omega)
  have e4 := word_of (S : Int) (.tuple tb) p (fun ds h => by cases h; rw [R.len]; have := R.most; omega)
  have e5 : wordB (S : Int) (.tuple tb) = true := R.word
  have e6 : wh (.int S) 2 8 = true := by
    have := R.s2; have := R.s8
    simp only [wh, Bool.and_eq_true, decide_eq_true_eq]
    omega
  have e7 : ((S : Int) ^ W = (tb.length : Int)) := by rw [R.len, Int.natCast_pow]
  have e8 : (2 : Int) ≤ (tb.length : Int) := by
    rw [R.len]
    have h1 : 2 ^ 1 ≤ S ^ 1 := Nat.pow_le_pow_left R.s2 1
    have h2 : S ^ 1 ≤ S ^ W := Nat.pow_le_pow_right (by have := R.s2; omega) R.w1
    omega
  have e9 : (tb.length : Int) ≤ 4096 := by
    rw [R.len]
    have := R.most
    omega
  have e10 : ((4 : Nat) : Int) = 4 := rfl
  have t1 : F_is_tuple_of [.sh (rl S low tb), .sh (.int 4)] p = some (.sh (.bool true), p) := by
    unfold F_is_tuple_of B_is_tuple_of defF rl
    simp only [fillSl, List.length_cons, List.length_nil, List.replicate, List.cons_append, List.nil_append, List.getElem?_cons_zero, List.getElem?_cons_succ, List.set_cons_zero, List.set_cons_succ, Nat.reduceAdd, Nat.reduceSub, Nat.reduceLT, seqS, nxS, setS, dropS, retS, iteS, retV, asg, potS, potDivS, appS, extS, unpS, parS, asgPs, asgP, asgD, asgDs, calm, binE, unE, potE, constE, varE, andE, orE, notE, ifE, tupE, lstE, slE, optE, callE, callF, callKF, methE, isiE, argsE, argsOf, datsOf, resV, newT, newL, shq, shf_true, opF, cF, addV, mulV, ixV, slV, gtK, ltK, leK, geK, subK, addK, mulK, fdivK, modK, powK, intK, absK, isiB, Val.dat, Val.items, flat, flatA, isL, Bool.and_true, Bool.true_and, Bool.false_and, Bool.and_false, if_true, if_false, Bool.false_eq_true, Option.map_some, Option.map_none, Bool.not_true, Bool.not_false, decide_true, decide_false, reduceIte, reduceCtorEq, and_self, true_and, and_true, yesE_ap, sizeLine_eq, Nat.reduceLeDiff, frS, frzL, frz1, frzS, addW, subW, boolInt, revV, tupV, listV, isi2E, setIS, dnewE, get2E, listRgE, tupRgE, rg1R, rg2R, rg3R, eqP_int, eqP_str, neP_int, neP_str, Bool.true_or, Bool.false_or, Bool.or_true, Bool.or_false, lenV, e10]
  have t2 : F_is_states_any [.sh (.int S)] p = some (.sh (.bool true), p) := by
    unfold F_is_states_any B_is_states_any defF
    simp only [fillSl, List.length_cons, List.length_nil, List.replicate, List.cons_append, List.nil_append, List.getElem?_cons_zero, List.getElem?_cons_succ, List.set_cons_zero, List.set_cons_succ, Nat.reduceAdd, Nat.reduceSub, Nat.reduceLT, seqS, nxS, setS, dropS, retS, iteS, retV, asg, potS, potDivS, appS, extS, unpS, parS, asgPs, asgP, asgD, asgDs, calm, binE, unE, potE, constE, varE, andE, orE, notE, ifE, tupE, lstE, slE, optE, callE, callF, callKF, methE, isiE, argsE, argsOf, datsOf, resV, newT, newL, shq, shf_true, opF, cF, addV, mulV, ixV, slV, gtK, ltK, leK, geK, subK, addK, mulK, fdivK, modK, powK, intK, absK, isiB, Val.dat, Val.items, flat, flatA, isL, Bool.and_true, Bool.true_and, Bool.false_and, Bool.and_false, if_true, if_false, Bool.false_eq_true, Option.map_some, Option.map_none, Bool.not_true, Bool.not_false, decide_true, decide_false, reduceIte, reduceCtorEq, and_self, true_and, and_true, yesE_ap, sizeLine_eq, Nat.reduceLeDiff, frS, frzL, frz1, frzS, addW, subW, boolInt, revV, tupV, listV, isi2E, setIS, dnewE, get2E, listRgE, tupRgE, rg1R, rg2R, rg3R, eqP_int, eqP_str, neP_int, neP_str, Bool.true_or, Bool.false_or, Bool.or_true, Bool.or_false, is_within, e6]
  unfold F_is_rule_any B_is_rule_any defF
  unfold rl at e e2 t1 ⊢
  simp only [fillSl, List.length_cons, List.length_nil, List.replicate, List.cons_append, List.nil_append, List.getElem?_cons_zero, List.getElem?_cons_succ, List.set_cons_zero, List.set_cons_succ, Nat.reduceAdd, Nat.reduceSub, Nat.reduceLT, seqS, nxS, setS, dropS, retS, iteS, retV, asg, potS, potDivS, appS, extS, unpS, parS, asgPs, asgP, asgD, asgDs, calm, binE, unE, potE, constE, varE, andE, orE, notE, ifE, tupE, lstE, slE, optE, callE, callF, callKF, methE, isiE, argsE, argsOf, datsOf, resV, newT, newL, shq, shf_true, opF, cF, addV, mulV, ixV, slV, gtK, ltK, leK, geK, subK, addK, mulK, fdivK, modK, powK, intK, absK, isiB, Val.dat, Val.items, flat, flatA, isL, Bool.and_true, Bool.true_and, Bool.false_and, Bool.and_false, if_true, if_false, Bool.false_eq_true, Option.map_some, Option.map_none, Bool.not_true, Bool.not_false, decide_true, decide_false, reduceIte, reduceCtorEq, and_self, true_and, and_true, yesE_ap, sizeLine_eq, Nat.reduceLeDiff, frS, frzL, frz1, frzS, addW, subW, boolInt, revV, tupV, listV, isi2E, setIS, dnewE, get2E, listRgE, tupRgE, rg1R, rg2R, rg3R, eqP_int, eqP_str, neP_int, neP_str, Bool.true_or, Bool.false_or, Bool.or_true, Bool.or_false, chainE, lenV, e, e2, e3, e4, e5, e7, e8, e9, t1, t2, is_integer, atI0, atI1, atI2, atI3, shf_true]
theorem want_rule (p : Pot) : F_want_rule [.sh (rl S low tb)] p = some (.sh (rl S low tb), p) := by
  have e := rule_any R p
  unfold F_want_rule B_want_rule defF
  unfold rl at e ⊢
  simp only [fillSl, List.length_cons, List.length_nil, List.replicate, List.cons_append, List.nil_append, List.getElem?_cons_zero, List.getElem?_cons_succ, List.set_cons_zero, List.set_cons_succ, Nat.reduceAdd, Nat.reduceSub, Nat.reduceLT, seqS, nxS, setS, dropS, retS, iteS, retV, asg, potS, potDivS, appS, extS, unpS, parS, asgPs, asgP, asgD, asgDs, calm, binE, unE, potE, constE, varE, andE, orE, notE, ifE, tupE, lstE, slE, optE, callE, callF, callKF, methE, isiE, argsE, argsOf, datsOf, resV, newT, newL, shq, shf_true, opF, cF, addV, mulV, ixV, slV, gtK, ltK, leK, geK, subK, addK, mulK, fdivK, modK, powK, intK, absK, isiB, Val.dat, Val.items, flat, flatA, isL, Bool.and_true, Bool.true_and, Bool.false_and, Bool.and_false, if_true, if_false, Bool.false_eq_true, Option.map_some, Option.map_none, Bool.not_true, Bool.not_false, decide_true, decide_false, reduceIte, reduceCtorEq, and_self, true_and, and_true, yesE_ap, sizeLine_eq, Nat.reduceLeDiff, frS, frzL, frz1, frzS, addW, subW, boolInt, revV, tupV, listV, isi2E, setIS, dnewE, get2E, listRgE, tupRgE, rg1R, rg2R, rg3R, eqP_int, eqP_str, neP_int, neP_str, Bool.true_or, Bool.false_or, Bool.or_true, Bool.or_false, e]
end
end K94
namespace K94
open PySem PySem.Spec PyProof.Rows L2 Pu
theorem maxK_eq (i j : Int) : maxK [.int i, .int j] = some (.int (max i j)) := by
  have e : (if j > i then j else i) = max i j := by
    rw [Int.max_def]
    split <;> split <;> omega
  show some (PyData.int (if j > i then j else i)) = _
  rw [e]
theorem max1K_two (i j : Int) : max1K [.tuple [.int i, .int j]] = some (.int (max i j)) := rfl
theorem max3K_eq (i j k : Int) : max3K [.int i, .int j, .int k] = some (.int (max (max i j) k)) := rfl
def rm0 (low : Int) : Int := max 0 (-low)
def rm1 (W : Nat) (low : Int) : Int := max 0 (low + W - 1)
def leastM (r0 r1 : Int) : Int := max (max 1 r0) r1
section
variable {S W : Nat} {low : Int} {tb : List PyData} (R : Rule S W low tb)
include R
theorem rims_in (p : Pot) : F_rims_in [.sh (rl S low tb)] p = some (.sh (.tuple [.int (rm0 low), .int (rm1 W low)]), p) := by
  have e := width_in R p
  unfold F_rims_in B_rims_in defF
  unfold rl at e ⊢
  simp only [fillSl, List.length_cons, List.length_nil, List.replicate, List.cons_append, List.nil_append, List.getElem?_cons_zero, List.getElem?_cons_succ, List.set_cons_zero, List.set_cons_succ, Nat.reduceAdd, Nat.reduceSub, Nat.reduceLT, seqS, nxS, setS, dropS, retS, iteS, retV, asg, potS, potDivS, appS, extS, unpS, parS, asgPs, asgP, asgD, asgDs, calm, binE, unE, potE, constE, varE, andE, orE, notE, ifE, tupE, lstE, slE, optE, callE, callF, callKF, methE, isiE, argsE, argsOf, datsOf, resV, newT, newL, shq, shf_true, opF, cF, addV, mulV, ixV, slV, gtK, ltK, leK, geK, subK, addK, mulK, fdivK, modK, powK, intK, absK, isiB, Val.dat, Val.items, flat, flatA, isL, Bool.and_true, Bool.true_and, Bool.false_and, Bool.and_false, if_true, if_false, Bool.false_eq_true, Option.map_some, Option.map_none, Bool.not_true, Bool.not_false, decide_true, decide_false, reduceIte, reduceCtorEq, and_self, true_and, and_true, yesE_ap, sizeLine_eq, Nat.reduceLeDiff, frS, frzL, frz1, frzS, addW, subW, boolInt, revV, tupV, listV, isi2E, setIS, dnewE, get2E, listRgE, tupRgE, rg1R, rg2R, rg3R, eqP_int, eqP_str, neP_int, neP_str, Bool.true_or, Bool.false_or, Bool.or_true, Bool.or_false, e, atI2, negV, maxK_eq, shf_true, rm0, rm1]
end
def seqOf : PyData → Option (List PyData)
  | .list ds => some ds
  | .tuple ds => some ds
  | _ => none
def gapB (m : Int) (d : PyData) : Bool := match d with
  | .tuple [.int a, .int b] => decide (m ≤ b - a)
  | _ => false
def pairs (ds : List PyData) : List PyData := zipD ds (Pu.cutD ds (some 1) none)
def cutsL (m : Int) (ds : List PyData) : Bool := decide (1 ≤ ds.length) && (decide (ds.length ≤ 8) && ((ds.all fun d => wh d (-400) 400) && (pairs ds).all (gapB m)))
def cutsB (m : Int) (d : PyData) : Bool := match d with
  | .list ds => cutsL m ds
  | .tuple ds => cutsL m ds
  | _ => false
theorem pairs_int {ds : List PyData} (h : (ds.all fun d => wh d (-400) 400) = true) : ∀ e ∈ pairs ds, ∃ a b : Int, e = .tuple [.int a, .int b] := by
  have hi : ∀ d ∈ ds, ∃ a : Int, d = .int a := fun d hd => by
    have := List.all_eq_true.mp h d hd
    cases d with
    | int a => exact ⟨a, rfl⟩
    | _ => cases this
  intro e he
  unfold pairs zipD at he
  obtain ⟨x, hx, rfl⟩ := List.mem_map.mp he
  obtain ⟨h1, h2⟩ := List.of_mem_zip (a := x.1) (b := x.2) hx
  have h3 : x.2 ∈ ds := by
    unfold Pu.cutD at h2
    exact List.mem_of_mem_drop (List.mem_of_mem_take h2)
  obtain ⟨a, ea⟩ := hi _ h1
  obtain ⟨b, eb⟩ := hi _ h3
  exact ⟨a, b, by rw [ea, eb]⟩
theorem pairs_len (ds : List PyData) : (pairs ds).length ≤ ds.length := by
  unfold pairs zipD
  rw [List.length_map, List.length_zip]
  omega
theorem geK_int (i j : Int) : geK (.int i) (.int j) = some (.bool (decide (j ≤ i))) := rfl
theorem nat1 (n : Nat) : ((1 : Int) ≤ (n : Int)) = (1 ≤ n) := propext ⟨fun h => by omega, fun h => by omega⟩
theorem nat8 (n : Nat) : ((n : Int) ≤ 8) = (n ≤ 8) := propext ⟨fun h => by omega, fun h => by omega⟩
theorem law_cuts_seq {d : PyData} {ds : List PyData} (hd : d = .list ds ∨ d = .tuple ds) (r0 r1 : Int) (hl : ds.length ≤ 16777216) (p : Pot) : F_law_is_cuts [.sh (.tuple [.int r0, .int r1]), .sh d] p = some (.sh (.bool (cutsL (leastM r0 r1) ds)), p) := by
  have c1 := fun (x : PyData) => compL_map (t := .nm 4) (fe := callF F_law_is_whole [(varE 4), (unE negV (constE (.int 400))), (constE (.int 400))]) (sl := [.sh (.tuple [.int r0, .int r1]), .sh x, .un, .un, .un]) (fun d => .bool (wh d (-400) 400)) ds
    (fun d _ => ⟨_, rfl, fun p => ⟨.sh (.bool (wh d (-400) 400)), by simp only [fillSl, List.length_cons, List.length_nil, List.replicate, List.cons_append, List.nil_append, List.getElem?_cons_zero, List.getElem?_cons_succ, List.set_cons_zero, List.set_cons_succ, Nat.reduceAdd, Nat.reduceSub, Nat.reduceLT, seqS, nxS, setS, dropS, retS, iteS, retV, asg, potS, potDivS, appS, extS, unpS, parS, asgPs, asgP, asgD, asgDs, calm, binE, unE, potE, constE, varE, andE, orE, notE, ifE, tupE, lstE, slE, optE, callE, callF, callKF, methE, isiE, argsE, argsOf, datsOf, resV, newT, newL, shq, shf_true, opF, cF, addV, mulV, ixV, slV, gtK, ltK, leK, geK, subK, addK, mulK, fdivK, modK, powK, intK, absK, isiB, Val.dat, Val.items, flat, flatA, isL, Bool.and_true, Bool.true_and, Bool.false_and, Bool.and_false, if_true, if_false, Bool.false_eq_true, Option.map_some, Option.map_none, Bool.not_true, Bool.not_false, decide_true, decide_false, reduceIte, reduceCtorEq, and_self, true_and, and_true, yesE_ap, sizeLine_eq, Nat.reduceLeDiff, frS, frzL, frz1, frzS, addW, subW, boolInt, revV, tupV, listV, isi2E, setIS, dnewE, get2E, listRgE, tupRgE, rg1R, rg2R, rg3R, eqP_int, eqP_str, neP_int, neP_str, Bool.true_or, Bool.false_or, Bool.or_true, Bool.or_false, negV, law_is_whole], rfl⟩⟩) p
  have c2 := fun (x : PyData) (h : (ds.all fun d => wh d (-400) 400) = true) => compL_map (t := .tp [(.nm 2), (.nm 3)]) (fe := binE (opF geK) (binE subW (varE 3) (varE 2)) (callE (cF max3K) [(constE (.int 1)), (binE ixV (varE 0) (constE (.int 0))), (binE ixV (varE 0) (constE (.int 1)))]))
    (sl := [.sh (.tuple [.int r0, .int r1]), .sh x, .un, .un, .un]) (fun d => .bool (gapB (leastM r0 r1) d)) (pairs ds)
    (fun d hd => by
      obtain ⟨a, b, rfl⟩ := pairs_int h d hd
      exact ⟨_, rfl, fun p => ⟨.sh (.bool (decide (leastM r0 r1 ≤ b - a))), by simp only [fillSl, List.length_cons, List.length_nil, List.replicate, List.cons_append, List.nil_append, List.getElem?_cons_zero, List.getElem?_cons_succ, List.set_cons_zero, List.set_cons_succ, Nat.reduceAdd, Nat.reduceSub, Nat.reduceLT, seqS, nxS, setS, dropS, retS, iteS, retV, asg, potS, potDivS, appS, extS, unpS, parS, asgPs, asgP, asgD, asgDs, calm, binE, unE, potE, constE, varE, andE, orE, notE, ifE, tupE, lstE, slE, optE, callE, callF, callKF, methE, isiE, argsE, argsOf, datsOf, resV, newT, newL, shq, shf_true, opF, cF, addV, mulV, ixV, slV, gtK, ltK, leK, geK, subK, addK, mulK, fdivK, modK, powK, intK, absK, isiB, Val.dat, Val.items, flat, flatA, isL, Bool.and_true, Bool.true_and, Bool.false_and, Bool.and_false, if_true, if_false, Bool.false_eq_true, Option.map_some, Option.map_none, Bool.not_true, Bool.not_false, decide_true, decide_false, reduceIte, reduceCtorEq, and_self, true_and, and_true, yesE_ap, sizeLine_eq, Nat.reduceLeDiff, frS, frzL, frz1, frzS, addW, subW, boolInt, revV, tupV, listV, isi2E, setIS, dnewE, get2E, listRgE, tupRgE, rg1R, rg2R, rg3R, eqP_int, eqP_str, neP_int, neP_str, Bool.true_or, Bool.false_or, Bool.or_true, Bool.or_false, atI0, atI1, max3K_eq, geK_int, leastM, shf_true]; rfl, rfl⟩⟩) p
  have hp : (pairs ds).length ≤ 16777216 := Nat.le_trans (pairs_len ds) hl
  unfold F_law_is_cuts B_law_is_cuts defF cutsL
  by_cases h1 : 1 ≤ ds.length
  · by_cases h2 : ds.length ≤ 8
    · cases h3 : ds.all fun d => wh d (-400) 400 with
      | true =>
        have c2' := fun x => c2 x h3
        unfold pairs at c2' hp ⊢
        rcases hd with rfl | rfl <;> simp only [fillSl, List.length_cons, List.length_nil, List.replicate, List.cons_append, List.nil_append, List.getElem?_cons_zero, List.getElem?_cons_succ, List.set_cons_zero, List.set_cons_succ, Nat.reduceAdd, Nat.reduceSub, Nat.reduceLT, seqS, nxS, setS, dropS, retS, iteS, retV, asg, potS, potDivS, appS, extS, unpS, parS, asgPs, asgP, asgD, asgDs, calm, binE, unE, potE, constE, varE, andE, orE, notE, ifE, tupE, lstE, slE, optE, callE, callF, callKF, methE, isiE, argsE, argsOf, datsOf, resV, newT, newL, shq, shf_true, opF, cF, addV, mulV, ixV, slV, gtK, ltK, leK, geK, subK, addK, mulK, fdivK, modK, powK, intK, absK, isiB, Val.dat, Val.items, flat, flatA, isL, Bool.and_true, Bool.true_and, Bool.false_and, Bool.and_false, if_true, if_false, Bool.false_eq_true, Option.map_some, Option.map_none, Bool.not_true, Bool.not_false, decide_true, decide_false, reduceIte, reduceCtorEq, and_self, true_and, and_true, yesE_ap, sizeLine_eq, Nat.reduceLeDiff, frS, frzL, frz1, frzS, addW, subW, boolInt, revV, tupV, listV, isi2E, setIS, dnewE, get2E, listRgE, tupRgE, rg1R, rg2R, rg3R, eqP_int, eqP_str, neP_int, neP_str, Bool.true_or, Bool.false_or, Bool.or_true, Bool.or_false, chainE, lenV, lcE, itJ, wipeSl, c1, List.length_map, hl, all_bools, h1, h2, h3, nat1, nat8, zipJ, slE, optE, slV, c2', hp]
      | false =>
        rcases hd with rfl | rfl <;> simp only [fillSl, List.length_cons, List.length_nil, List.replicate, List.cons_append, List.nil_append, List.getElem?_cons_zero, List.getElem?_cons_succ, List.set_cons_zero, List.set_cons_succ, Nat.reduceAdd, Nat.reduceSub, Nat.reduceLT, seqS, nxS, setS, dropS, retS, iteS, retV, asg, potS, potDivS, appS, extS, unpS, parS, asgPs, asgP, asgD, asgDs, calm, binE, unE, potE, constE, varE, andE, orE, notE, ifE, tupE, lstE, slE, optE, callE, callF, callKF, methE, isiE, argsE, argsOf, datsOf, resV, newT, newL, shq, shf_true, opF, cF, addV, mulV, ixV, slV, gtK, ltK, leK, geK, subK, addK, mulK, fdivK, modK, powK, intK, absK, isiB, Val.dat, Val.items, flat, flatA, isL, Bool.and_true, Bool.true_and, Bool.false_and, Bool.and_false, if_true, if_false, Bool.false_eq_true, Option.map_some, Option.map_none, Bool.not_true, Bool.not_false, decide_true, decide_false, reduceIte, reduceCtorEq, and_self, true_and, and_true, yesE_ap, sizeLine_eq, Nat.reduceLeDiff, frS, frzL, frz1, frzS, addW, subW, boolInt, revV, tupV, listV, isi2E, setIS, dnewE, get2E, listRgE, tupRgE, rg1R, rg2R, rg3R, eqP_int, eqP_str, neP_int, neP_str, Bool.true_or, Bool.false_or, Bool.or_true, Bool.or_false, chainE, lenV, lcE, itJ, wipeSl, c1, List.length_map, hl, all_bools, h1, h2, h3, nat1, nat8]
    · rcases hd with rfl | rfl <;> simp only [fillSl, List.length_cons, List.length_nil, List.replicate, List.cons_append, List.nil_append, List.getElem?_cons_zero, List.getElem?_cons_succ, List.set_cons_zero, List.set_cons_succ, Nat.reduceAdd, Nat.reduceSub, Nat.reduceLT, seqS, nxS, setS, dropS, retS, iteS, retV, asg, potS, potDivS, appS, extS, unpS, parS, asgPs, asgP, asgD, asgDs, calm, binE, unE, potE, constE, varE, andE, orE, notE, ifE, tupE, lstE, slE, optE, callE, callF, callKF, methE, isiE, argsE, argsOf, datsOf, resV, newT, newL, shq, shf_true, opF, cF, addV, mulV, ixV, slV, gtK, ltK, leK, geK, subK, addK, mulK, fdivK, modK, powK, intK, absK, isiB, Val.dat, Val.items, flat, flatA, isL, Bool.and_true, Bool.true_and, Bool.false_and, Bool.and_false, if_true, if_false, Bool.false_eq_true, Option.map_some, Option.map_none, Bool.not_true, Bool.not_false, decide_true, decide_false, reduceIte, reduceCtorEq, and_self, true_and, and_true, yesE_ap, sizeLine_eq, Nat.reduceLeDiff, frS, frzL, frz1, frzS, addW, subW, boolInt, revV, tupV, listV, isi2E, setIS, dnewE, get2E, listRgE, tupRgE, rg1R, rg2R, rg3R, eqP_int, eqP_str, neP_int, neP_str, Bool.true_or, Bool.false_or, Bool.or_true, Bool.or_false, chainE, lenV, h1, h2, nat1, nat8]
  · rcases hd with rfl | rfl <;> simp only [fillSl, List.length_cons, List.length_nil, List.replicate, List.cons_append, List.nil_append, List.getElem?_cons_zero, List.getElem?_cons_succ, List.set_cons_zero, List.set_cons_succ, Nat.reduceAdd, Nat.reduceSub, Nat.reduceLT, seqS, nxS, setS, dropS, retS, iteS, retV, asg, potS, potDivS, appS, extS, unpS, parS, asgPs, asgP, asgD, asgDs, calm, binE, unE, potE, constE, varE, andE, orE, notE, ifE, tupE, lstE, slE, optE, callE, callF, callKF, methE, isiE, argsE, argsOf, datsOf, resV, newT, newL, shq, shf_true, opF, cF, addV, mulV, ixV, slV, gtK, ltK, leK, geK, subK, addK, mulK, fdivK, modK, powK, intK, absK, isiB, Val.dat, Val.items, flat, flatA, isL, Bool.and_true, Bool.true_and, Bool.false_and, Bool.and_false, if_true, if_false, Bool.false_eq_true, Option.map_some, Option.map_none, Bool.not_true, Bool.not_false, decide_true, decide_false, reduceIte, reduceCtorEq, and_self, true_and, and_true, yesE_ap, sizeLine_eq, Nat.reduceLeDiff, frS, frzL, frz1, frzS, addW, subW, boolInt, revV, tupV, listV, isi2E, setIS, dnewE, get2E, listRgE, tupRgE, rg1R, rg2R, rg3R, eqP_int, eqP_str, neP_int, neP_str, Bool.true_or, Bool.false_or, Bool.or_true, Bool.or_false, chainE, lenV, h1, nat1]
theorem law_cuts (d : PyData) (r0 r1 : Int) (p : Pot) (hl : ∀ ds, d = .list ds ∨ d = .tuple ds → ds.length ≤ 16777216) : F_law_is_cuts [.sh (.tuple [.int r0, .int r1]), .sh d] p = some (.sh (.bool (cutsB (leastM r0 r1) d)), p) := by
  cases d with
  | list ds => exact law_cuts_seq (.inl rfl) r0 r1 (hl ds (.inl rfl)) p
  | tuple ds => exact law_cuts_seq (.inr rfl) r0 r1 (hl ds (.inr rfl)) p
  | _ =>
    unfold F_law_is_cuts B_law_is_cuts defF
    simp only [fillSl, List.length_cons, List.length_nil, List.replicate, List.cons_append, List.nil_append, List.getElem?_cons_zero, List.getElem?_cons_succ, List.set_cons_zero, List.set_cons_succ, Nat.reduceAdd, Nat.reduceSub, Nat.reduceLT, seqS, nxS, setS, dropS, retS, iteS, retV, asg, potS, potDivS, appS, extS, unpS, parS, asgPs, asgP, asgD, asgDs, calm, binE, unE, potE, constE, varE, andE, orE, notE, ifE, tupE, lstE, slE, optE, callE, callF, callKF, methE, isiE, argsE, argsOf, datsOf, resV, newT, newL, shq, shf_true, opF, cF, addV, mulV, ixV, slV, gtK, ltK, leK, geK, subK, addK, mulK, fdivK, modK, powK, intK, absK, isiB, Val.dat, Val.items, flat, flatA, isL, Bool.and_true, Bool.true_and, Bool.false_and, Bool.and_false, if_true, if_false, Bool.false_eq_true, Option.map_some, Option.map_none, Bool.not_true, Bool.not_false, decide_true, decide_false, reduceIte, reduceCtorEq, and_self, true_and, and_true, yesE_ap, sizeLine_eq, Nat.reduceLeDiff, frS, frzL, frz1, frzS, addW, subW, boolInt, revV, tupV, listV, isi2E, setIS, dnewE, get2E, listRgE, tupRgE, rg1R, rg2R, rg3R, eqP_int, eqP_str, neP_int, neP_str, Bool.true_or, Bool.false_or, Bool.or_true, Bool.or_false, cutsB]
section
variable {S W : Nat} {low : Int} {tb : List PyData} (R : Rule S W low tb)
include R
theorem are_cuts_seq {d : PyData} {ds : List PyData} (hd : d = .list ds ∨ d = .tuple ds) (hl : ds.length ≤ 16777216) (p : Pot) : F_are_cuts [.sh (rl S low tb), .sh d] p = some (.sh (.bool (cutsL (leastM (rm0 low) (rm1 W low)) ds)), p) := by
  have c1 := fun (x : PyData) => compL_map (t := .nm 5) (fe := callF F_is_within [(varE 5), (unE negV (constE (.int 400))), (constE (.int 400))]) (sl := [.sh (rl S low tb), .sh x, .un, .un, .un, .un]) (fun d => .bool (wh d (-400) 400)) ds
    (fun d _ => ⟨_, rfl, fun p => ⟨.sh (.bool (wh d (-400) 400)), by simp only [fillSl, List.length_cons, List.length_nil, List.replicate, List.cons_append, List.nil_append, List.getElem?_cons_zero, List.getElem?_cons_succ, List.set_cons_zero, List.set_cons_succ, Nat.reduceAdd, Nat.reduceSub, Nat.reduceLT, seqS, nxS, setS, dropS, retS, iteS, retV, asg, potS, potDivS, appS, extS, unpS, parS, asgPs, asgP, asgD, asgDs, calm, binE, unE, potE, constE, varE, andE, orE, notE, ifE, tupE, lstE, slE, optE, callE, callF, callKF, methE, isiE, argsE, argsOf, datsOf, resV, newT, newL, shq, shf_true, opF, cF, addV, mulV, ixV, slV, gtK, ltK, leK, geK, subK, addK, mulK, fdivK, modK, powK, intK, absK, isiB, Val.dat, Val.items, flat, flatA, isL, Bool.and_true, Bool.true_and, Bool.false_and, Bool.and_false, if_true, if_false, Bool.false_eq_true, Option.map_some, Option.map_none, Bool.not_true, Bool.not_false, decide_true, decide_false, reduceIte, reduceCtorEq, and_self, true_and, and_true, yesE_ap, sizeLine_eq, Nat.reduceLeDiff, frS, frzL, frz1, frzS, addW, subW, boolInt, revV, tupV, listV, isi2E, setIS, dnewE, get2E, listRgE, tupRgE, rg1R, rg2R, rg3R, eqP_int, eqP_str, neP_int, neP_str, Bool.true_or, Bool.false_or, Bool.or_true, Bool.or_false, negV, is_within], rfl⟩⟩) p
  have c2 := fun (x : PyData) (h : (ds.all fun d => wh d (-400) 400) = true) => compL_map (t := .tp [(.nm 3), (.nm 4)]) (fe := binE (opF geK) (binE subW (varE 4) (varE 3)) (varE 2))
    (sl := [.sh (rl S low tb), .sh x, .sh (.int (leastM (rm0 low) (rm1 W low))), .un, .un, .un]) (fun d => .bool (gapB (leastM (rm0 low) (rm1 W low)) d)) (pairs ds)
    (fun d hd => by
      obtain ⟨a, b, rfl⟩ := pairs_int h d hd
      exact ⟨_, rfl, fun p => ⟨.sh (.bool (decide (leastM (rm0 low) (rm1 W low) ≤ b - a))), by simp only [fillSl, List.length_cons, List.length_nil, List.replicate, List.cons_append, List.nil_append, List.getElem?_cons_zero, List.getElem?_cons_succ, List.set_cons_zero, List.set_cons_succ, Nat.reduceAdd, Nat.reduceSub, Nat.reduceLT, seqS, nxS, setS, dropS, retS, iteS, retV, asg, potS, potDivS, appS, extS, unpS, parS, asgPs, asgP, asgD, asgDs, calm, binE, unE, potE, constE, varE, andE, orE, notE, ifE, tupE, lstE, slE, optE, callE, callF, callKF, methE, isiE, argsE, argsOf, datsOf, resV, newT, newL, shq, shf_true, opF, cF, addV, mulV, ixV, slV, gtK, ltK, leK, geK, subK, addK, mulK, fdivK, modK, powK, intK, absK, isiB, Val.dat, Val.items, flat, flatA, isL, Bool.and_true, Bool.true_and, Bool.false_and, Bool.and_false, if_true, if_false, Bool.false_eq_true, Option.map_some, Option.map_none, Bool.not_true, Bool.not_false, decide_true, decide_false, reduceIte, reduceCtorEq, and_self, true_and, and_true, yesE_ap, sizeLine_eq, Nat.reduceLeDiff, frS, frzL, frz1, frzS, addW, subW, boolInt, revV, tupV, listV, isi2E, setIS, dnewE, get2E, listRgE, tupRgE, rg1R, rg2R, rg3R, eqP_int, eqP_str, neP_int, neP_str, Bool.true_or, Bool.false_or, Bool.or_true, Bool.or_false, geK_int, shf_true], rfl⟩⟩) p
  have hp : (pairs ds).length ≤ 16777216 := Nat.le_trans (pairs_len ds) hl
  have er := rims_in R p
  have li : ∀ (x : PyData) (p : Pot), F_is_listed [.sh x] p = some (.sh (.bool (match x with | .list _ => true | .tuple _ => true | _ => false)), p) := fun x p => by
    unfold F_is_listed B_is_listed defF
    cases x <;> simp only [fillSl, List.length_cons, List.length_nil, List.replicate, List.cons_append, List.nil_append, List.getElem?_cons_zero, List.getElem?_cons_succ, List.set_cons_zero, List.set_cons_succ, Nat.reduceAdd, Nat.reduceSub, Nat.reduceLT, seqS, nxS, setS, dropS, retS, iteS, retV, asg, potS, potDivS, appS, extS, unpS, parS, asgPs, asgP, asgD, asgDs, calm, binE, unE, potE, constE, varE, andE, orE, notE, ifE, tupE, lstE, slE, optE, callE, callF, callKF, methE, isiE, argsE, argsOf, datsOf, resV, newT, newL, shq, shf_true, opF, cF, addV, mulV, ixV, slV, gtK, ltK, leK, geK, subK, addK, mulK, fdivK, modK, powK, intK, absK, isiB, Val.dat, Val.items, flat, flatA, isL, Bool.and_true, Bool.true_and, Bool.false_and, Bool.and_false, if_true, if_false, Bool.false_eq_true, Option.map_some, Option.map_none, Bool.not_true, Bool.not_false, decide_true, decide_false, reduceIte, reduceCtorEq, and_self, true_and, and_true, yesE_ap, sizeLine_eq, Nat.reduceLeDiff, frS, frzL, frz1, frzS, addW, subW, boolInt, revV, tupV, listV, isi2E, setIS, dnewE, get2E, listRgE, tupRgE, rg1R, rg2R, rg3R, eqP_int, eqP_str, neP_int, neP_str, Bool.true_or, Bool.false_or, Bool.or_true, Bool.or_false]
  have em : max 1 (max (rm0 low) (rm1 W low)) = leastM (rm0 low) (rm1 W low) := by unfold leastM; omega
  unfold F_are_cuts B_are_cuts defF cutsL
  generalize rl S low tb = x0 at *
  by_cases h1 : 1 ≤ ds.length
  · by_cases h2 : ds.length ≤ 8
    · cases h3 : ds.all fun d => wh d (-400) 400 with
      | true =>
        have c2' := fun x => c2 x h3
        unfold pairs at c2' hp ⊢
        rcases hd with rfl | rfl <;> simp only [fillSl, List.length_cons, List.length_nil, List.replicate, List.cons_append, List.nil_append, List.getElem?_cons_zero, List.getElem?_cons_succ, List.set_cons_zero, List.set_cons_succ, Nat.reduceAdd, Nat.reduceSub, Nat.reduceLT, seqS, nxS, setS, dropS, retS, iteS, retV, asg, potS, potDivS, appS, extS, unpS, parS, asgPs, asgP, asgD, asgDs, calm, binE, unE, potE, constE, varE, andE, orE, notE, ifE, tupE, lstE, slE, optE, callE, callF, callKF, methE, isiE, argsE, argsOf, datsOf, resV, newT, newL, shq, shf_true, opF, cF, addV, mulV, ixV, slV, gtK, ltK, leK, geK, subK, addK, mulK, fdivK, modK, powK, intK, absK, isiB, Val.dat, Val.items, flat, flatA, isL, Bool.and_true, Bool.true_and, Bool.false_and, Bool.and_false, if_true, if_false, Bool.false_eq_true, Option.map_some, Option.map_none, Bool.not_true, Bool.not_false, decide_true, decide_false, reduceIte, reduceCtorEq, and_self, true_and, and_true, yesE_ap, sizeLine_eq, Nat.reduceLeDiff, frS, frzL, frz1, frzS, addW, subW, boolInt, revV, tupV, listV, isi2E, setIS, dnewE, get2E, listRgE, tupRgE, rg1R, rg2R, rg3R, eqP_int, eqP_str, neP_int, neP_str, Bool.true_or, Bool.false_or, Bool.or_true, Bool.or_false, li, chainE, lenV, lcE, itJ, wipeSl, c1, List.length_map, hl, all_bools, h1, h2, h3, nat1, nat8, zipJ, slE, optE, slV, er, max1K_two, maxK_eq, em, c2', hp]
      | false =>
        rcases hd with rfl | rfl <;> simp only [fillSl, List.length_cons, List.length_nil, List.replicate, List.cons_append, List.nil_append, List.getElem?_cons_zero, List.getElem?_cons_succ, List.set_cons_zero, List.set_cons_succ, Nat.reduceAdd, Nat.reduceSub, Nat.reduceLT, seqS, nxS, setS, dropS, retS, iteS, retV, asg, potS, potDivS, appS, extS, unpS, parS, asgPs, asgP, asgD, asgDs, calm, binE, unE, potE, constE, varE, andE, orE, notE, ifE, tupE, lstE, slE, optE, callE, callF, callKF, methE, isiE, argsE, argsOf, datsOf, resV, newT, newL, shq, shf_true, opF, cF, addV, mulV, ixV, slV, gtK, ltK, leK, geK, subK, addK, mulK, fdivK, modK, powK, intK, absK, isiB, Val.dat, Val.items, flat, flatA, isL, Bool.and_true, Bool.true_and, Bool.false_and, Bool.and_false, if_true, if_false, Bool.false_eq_true, Option.map_some, Option.map_none, Bool.not_true, Bool.not_false, decide_true, decide_false, reduceIte, reduceCtorEq, and_self, true_and, and_true, yesE_ap, sizeLine_eq, Nat.reduceLeDiff, frS, frzL, frz1, frzS, addW, subW, boolInt, revV, tupV, listV, isi2E, setIS, dnewE, get2E, listRgE, tupRgE, rg1R, rg2R, rg3R, eqP_int, eqP_str, neP_int, neP_str, Bool.true_or, Bool.false_or, Bool.or_true, Bool.or_false, li, chainE, lenV, lcE, itJ, wipeSl, c1, List.length_map, hl, all_bools, h1, h2, h3, nat1, nat8]
    · rcases hd with rfl | rfl <;> simp only [fillSl, List.length_cons, List.length_nil, List.replicate, List.cons_append, List.nil_append, List.getElem?_cons_zero, List.getElem?_cons_succ, List.set_cons_zero, List.set_cons_succ, Nat.reduceAdd, Nat.reduceSub, Nat.reduceLT, seqS, nxS, setS, dropS, retS, iteS, retV, asg, potS, potDivS, appS, extS, unpS, parS, asgPs, asgP, asgD, asgDs, calm, binE, unE, potE, constE, varE, andE, orE, notE, ifE, tupE, lstE, slE, optE, callE, callF, callKF, methE, isiE, argsE, argsOf, datsOf, resV, newT, newL, shq, shf_true, opF, cF, addV, mulV, ixV, slV, gtK, ltK, leK, geK, subK, addK, mulK, fdivK, modK, powK, intK, absK, isiB, Val.dat, Val.items, flat, flatA, isL, Bool.and_true, Bool.true_and, Bool.false_and, Bool.and_false, if_true, if_false, Bool.false_eq_true, Option.map_some, Option.map_none, Bool.not_true, Bool.not_false, decide_true, decide_false, reduceIte, reduceCtorEq, and_self, true_and, and_true, yesE_ap, sizeLine_eq, Nat.reduceLeDiff, frS, frzL, frz1, frzS, addW, subW, boolInt, revV, tupV, listV, isi2E, setIS, dnewE, get2E, listRgE, tupRgE, rg1R, rg2R, rg3R, eqP_int, eqP_str, neP_int, neP_str, Bool.true_or, Bool.false_or, Bool.or_true, Bool.or_false, li, chainE, lenV, h1, h2, nat1, nat8]
  · rcases hd with rfl | rfl <;> simp only [fillSl, List.length_cons, List.length_nil, List.replicate, List.cons_append, List.nil_append, List.getElem?_cons_zero, List.getElem?_cons_succ, List.set_cons_zero, List.set_cons_succ, Nat.reduceAdd, Nat.reduceSub, Nat.reduceLT, seqS, nxS, setS, dropS, retS, iteS, retV, asg, potS, potDivS, appS, extS, unpS, parS, asgPs, asgP, asgD, asgDs, calm, binE, unE, potE, constE, varE, andE, orE, notE, ifE, tupE, lstE, slE, optE, callE, callF, callKF, methE, isiE, argsE, argsOf, datsOf, resV, newT, newL, shq, shf_true, opF, cF, addV, mulV, ixV, slV, gtK, ltK, leK, geK, subK, addK, mulK, fdivK, modK, powK, intK, absK, isiB, Val.dat, Val.items, flat, flatA, isL, Bool.and_true, Bool.true_and, Bool.false_and, Bool.and_false, if_true, if_false, Bool.false_eq_true, Option.map_some, Option.map_none, Bool.not_true, Bool.not_false, decide_true, decide_false, reduceIte, reduceCtorEq, and_self, true_and, and_true, yesE_ap, sizeLine_eq, Nat.reduceLeDiff, frS, frzL, frz1, frzS, addW, subW, boolInt, revV, tupV, listV, isi2E, setIS, dnewE, get2E, listRgE, tupRgE, rg1R, rg2R, rg3R, eqP_int, eqP_str, neP_int, neP_str, Bool.true_or, Bool.false_or, Bool.or_true, Bool.or_false, li, chainE, lenV, h1, nat1]
theorem are_cuts (d : PyData) (p : Pot) (hl : ∀ ds, d = .list ds ∨ d = .tuple ds → ds.length ≤ 16777216) : F_are_cuts [.sh (rl S low tb), .sh d] p = some (.sh (.bool (cutsB (leastM (rm0 low) (rm1 W low)) d)), p) := by
  cases d with
  | list ds => exact are_cuts_seq R (.inl rfl) (hl ds (.inl rfl)) p
  | tuple ds => exact are_cuts_seq R (.inr rfl) (hl ds (.inr rfl)) p
  | _ =>
    unfold F_are_cuts B_are_cuts defF
    simp only [fillSl, List.length_cons, List.length_nil, List.replicate, List.cons_append, List.nil_append, List.getElem?_cons_zero, List.getElem?_cons_succ, List.set_cons_zero, List.set_cons_succ, Nat.reduceAdd, Nat.reduceSub, Nat.reduceLT, seqS, nxS, setS, dropS, retS, iteS, retV, asg, potS, potDivS, appS, extS, unpS, parS, asgPs, asgP, asgD, asgDs, calm, binE, unE, potE, constE, varE, andE, orE, notE, ifE, tupE, lstE, slE, optE, callE, callF, callKF, methE, isiE, argsE, argsOf, datsOf, resV, newT, newL, shq, shf_true, opF, cF, addV, mulV, ixV, slV, gtK, ltK, leK, geK, subK, addK, mulK, fdivK, modK, powK, intK, absK, isiB, Val.dat, Val.items, flat, flatA, isL, Bool.and_true, Bool.true_and, Bool.false_and, Bool.and_false, if_true, if_false, Bool.false_eq_true, Option.map_some, Option.map_none, Bool.not_true, Bool.not_false, decide_true, decide_false, reduceIte, reduceCtorEq, and_self, true_and, and_true, yesE_ap, sizeLine_eq, Nat.reduceLeDiff, frS, frzL, frz1, frzS, addW, subW, boolInt, revV, tupV, listV, isi2E, setIS, dnewE, get2E, listRgE, tupRgE, rg1R, rg2R, rg3R, eqP_int, eqP_str, neP_int, neP_str, Bool.true_or, Bool.false_or, Bool.or_true, Bool.or_false, F_is_listed, B_is_listed, defF, cutsB]
theorem is_cuts (d : PyData) (p : Pot) (hl : ∀ ds, d = .list ds ∨ d = .tuple ds → ds.length ≤ 16777216) : F_is_cuts [.sh (rl S low tb), .sh d] p = some (.sh (.bool (cutsB (leastM (rm0 low) (rm1 W low)) d)), p) := by
  have e1 := want_rule R p
  have e2 := are_cuts R d p hl
  unfold F_is_cuts B_is_cuts defF
  generalize rl S low tb = x0 at *
  simp only [fillSl, List.length_cons, List.length_nil, List.replicate, List.cons_append, List.nil_append, List.getElem?_cons_zero, List.getElem?_cons_succ, List.set_cons_zero, List.set_cons_succ, Nat.reduceAdd, Nat.reduceSub, Nat.reduceLT, seqS, nxS, setS, dropS, retS, iteS, retV, asg, potS, potDivS, appS, extS, unpS, parS, asgPs, asgP, asgD, asgDs, calm, binE, unE, potE, constE, varE, andE, orE, notE, ifE, tupE, lstE, slE, optE, callE, callF, callKF, methE, isiE, argsE, argsOf, datsOf, resV, newT, newL, shq, shf_true, opF, cF, addV, mulV, ixV, slV, gtK, ltK, leK, geK, subK, addK, mulK, fdivK, modK, powK, intK, absK, isiB, Val.dat, Val.items, flat, flatA, isL, Bool.and_true, Bool.true_and, Bool.false_and, Bool.and_false, if_true, if_false, Bool.false_eq_true, Option.map_some, Option.map_none, Bool.not_true, Bool.not_false, decide_true, decide_false, reduceIte, reduceCtorEq, and_self, true_and, and_true, yesE_ap, sizeLine_eq, Nat.reduceLeDiff, frS, frzL, frz1, frzS, addW, subW, boolInt, revV, tupV, listV, isi2E, setIS, dnewE, get2E, listRgE, tupRgE, rg1R, rg2R, rg3R, eqP_int, eqP_str, neP_int, neP_str, Bool.true_or, Bool.false_or, Bool.or_true, Bool.or_false, e1, e2]
theorem want_cuts (cs : List PyData) (p : Pot) (hl : cs.length ≤ 16777216) (hc : cutsL (leastM (rm0 low) (rm1 W low)) cs = true) : ∃ v, F_want_cuts [.sh (rl S low tb), .sh (.list cs)] p = some (v, p) := by
  have e2 := are_cuts_seq R (.inl rfl) hl p
  rw [hc] at e2
  unfold F_want_cuts B_want_cuts defF
  generalize rl S low tb = x0 at *
  simp only [fillSl, List.length_cons, List.length_nil, List.replicate, List.cons_append, List.nil_append, List.getElem?_cons_zero, List.getElem?_cons_succ, List.set_cons_zero, List.set_cons_succ, Nat.reduceAdd, Nat.reduceSub, Nat.reduceLT, seqS, nxS, setS, dropS, retS, iteS, retV, asg, potS, potDivS, appS, extS, unpS, parS, asgPs, asgP, asgD, asgDs, calm, binE, unE, potE, constE, varE, andE, orE, notE, ifE, tupE, lstE, slE, optE, callE, callF, callKF, methE, isiE, argsE, argsOf, datsOf, resV, newT, newL, shq, shf_true, opF, cF, addV, mulV, ixV, slV, gtK, ltK, leK, geK, subK, addK, mulK, fdivK, modK, powK, intK, absK, isiB, Val.dat, Val.items, flat, flatA, isL, Bool.and_true, Bool.true_and, Bool.false_and, Bool.and_false, if_true, if_false, Bool.false_eq_true, Option.map_some, Option.map_none, Bool.not_true, Bool.not_false, decide_true, decide_false, reduceIte, reduceCtorEq, and_self, true_and, and_true, yesE_ap, sizeLine_eq, Nat.reduceLeDiff, frS, frzL, frz1, frzS, addW, subW, boolInt, revV, tupV, listV, isi2E, setIS, dnewE, get2E, listRgE, tupRgE, rg1R, rg2R, rg3R, eqP_int, eqP_str, neP_int, neP_str, Bool.true_or, Bool.false_or, Bool.or_true, Bool.or_false, e2]
  exact ⟨_, rfl⟩
end
end K94
namespace K94
open PySem PySem.Spec PyProof.Rows L2 Pu
/-! ### the letters of the rims -/
def rimL (r0 r1 : Int) (k m : Nat) : List (List Int) := (List.range' k m).flatMap fun (w : Nat) => (if 0 < r0 then [[(w : Int), (w : Int) + 1, r0]] else []) ++ (if 0 < r1 then [[(w : Int) + 1, (w : Int), r1]] else [])
theorem rimL_succ (r0 r1 : Int) (k m : Nat) : rimL r0 r1 k (m + 1) = ((if 0 < r0 then [[(k : Int), (k : Int) + 1, r0]] else []) ++ (if 0 < r1 then [[(k : Int) + 1, (k : Int), r1]] else [])) ++ rimL r0 r1 (k + 1) m := by
  unfold rimL
  rw [List.range'_succ, List.flatMap_cons]
theorem rim_loop (x0 cs : PyData) (r0 r1 : Int) (p : Pot) : ∀ (m k : Nat) (nss : List (List Int)) (x : Slot), k + m ≤ 100 → nss.length ≤ 2 * k →
    ∃ x', forL (.nm 5) (seqS (iteS (binE (opF gtK) (varE 2) (constE (.int 0))) (appS 4 (tupE [(varE 5), (binE addW (varE 5) (constE (.int 1))), (varE 2)])) nxS)
    (iteS (binE (opF gtK) (varE 3) (constE (.int 0))) (appS 4 (tupE [(binE addW (varE 5) (constE (.int 1))), (varE 5), (varE 3)])) nxS)) ((List.range' k m).map fun (i : Nat) => .int (0 + (i : Nat))) [.sh x0, .sh cs, .sh (.int r0), .sh (.int r1), .own (.list (nss.map tupD)), x] p = some (.nx [.sh x0, .sh cs, .sh (.int r0), .sh (.int r1), .own (.list ((nss ++ rimL r0 r1 k m).map tupD)), x'] p) := by
  intro m
  induction m with
  | zero => exact fun k nss x _ _ => ⟨x, by simp only [List.range'_zero, List.map_nil, forL, rimL, List.flatMap_nil, List.append_nil]⟩
  | succ m ih =>
    intro k nss x hk hn
    rw [List.range'_succ, List.map_cons, rimL_succ]
    unfold forL
    have e0 : (0 : Int) + (k : Int) = (k : Int) := Int.zero_add _
    have l1 : (nss.map tupD).length < 16777216 := by rw [List.length_map]; omega
    have l2 : ∀ d, (nss.map tupD ++ [d]).length < 16777216 := fun d => by rw [List.length_append, List.length_map]; simp only [List.length_cons, List.length_nil]; omega
    have t1 : ∀ a b c : Int, PyData.tuple [.int a, .int b, .int c] = tupD [a, b, c] := fun _ _ _ => rfl
    by_cases h0 : 0 < r0
    · by_cases h1 : 0 < r1
      · obtain ⟨x', e⟩ := ih (k + 1) (nss ++ [[(k : Int), (k : Int) + 1, r0], [(k : Int) + 1, (k : Int), r1]]) (.sh (.int (0 + (k : Nat)))) (by omega) (by simp only [List.length_append, List.length_cons, List.length_nil]; omega)
        simp only [List.map_append, List.map_cons, List.map_nil, List.append_assoc, List.cons_append, List.nil_append] at e
        refine ⟨x', ?_⟩
        simp only [fillSl, List.length_cons, List.length_nil, List.replicate, List.cons_append, List.nil_append, List.getElem?_cons_zero, List.getElem?_cons_succ, List.set_cons_zero, List.set_cons_succ, Nat.reduceAdd, Nat.reduceSub, Nat.reduceLT, seqS, nxS, setS, dropS, retS, iteS, retV, asg, potS, potDivS, appS, extS, unpS, parS, asgPs, asgP, asgD, asgDs, calm, binE, unE, potE, constE, varE, andE, orE, notE, ifE, tupE, lstE, slE, optE, callE, callF, callKF, methE, isiE, argsE, argsOf, datsOf, resV, newT, newL, shq, shf_true, opF, cF, addV, mulV, ixV, slV, gtK, ltK, leK, geK, subK, addK, mulK, fdivK, modK, powK, intK, absK, isiB, Val.dat, Val.items, flat, flatA, isL, Bool.and_true, Bool.true_and, Bool.false_and, Bool.and_false, if_true, if_false, Bool.false_eq_true, Option.map_some, Option.map_none, Bool.not_true, Bool.not_false, decide_true, decide_false, reduceIte, reduceCtorEq, and_self, true_and, and_true, yesE_ap, sizeLine_eq, Nat.reduceLeDiff, frS, frzL, frz1, frzS, addW, subW, boolInt, revV, tupV, listV, isi2E, setIS, dnewE, get2E, listRgE, tupRgE, rg1R, rg2R, rg3R, eqP_int, eqP_str, neP_int, neP_str, Bool.true_or, Bool.false_or, Bool.or_true, Bool.or_false, Pu.calm, e0, h0, h1, l1, l2, t1, List.map_append, List.append_assoc] at e ⊢
        exact e
      · obtain ⟨x', e⟩ := ih (k + 1) (nss ++ [[(k : Int), (k : Int) + 1, r0]]) (.sh (.int (0 + (k : Nat)))) (by omega) (by simp only [List.length_append, List.length_cons, List.length_nil]; omega)
        refine ⟨x', ?_⟩
        simp only [fillSl, List.length_cons, List.length_nil, List.replicate, List.cons_append, List.nil_append, List.getElem?_cons_zero, List.getElem?_cons_succ, List.set_cons_zero, List.set_cons_succ, Nat.reduceAdd, Nat.reduceSub, Nat.reduceLT, seqS, nxS, setS, dropS, retS, iteS, retV, asg, potS, potDivS, appS, extS, unpS, parS, asgPs, asgP, asgD, asgDs, calm, binE, unE, potE, constE, varE, andE, orE, notE, ifE, tupE, lstE, slE, optE, callE, callF, callKF, methE, isiE, argsE, argsOf, datsOf, resV, newT, newL, shq, shf_true, opF, cF, addV, mulV, ixV, slV, gtK, ltK, leK, geK, subK, addK, mulK, fdivK, modK, powK, intK, absK, isiB, Val.dat, Val.items, flat, flatA, isL, Bool.and_true, Bool.true_and, Bool.false_and, Bool.and_false, if_true, if_false, Bool.false_eq_true, Option.map_some, Option.map_none, Bool.not_true, Bool.not_false, decide_true, decide_false, reduceIte, reduceCtorEq, and_self, true_and, and_true, yesE_ap, sizeLine_eq, Nat.reduceLeDiff, frS, frzL, frz1, frzS, addW, subW, boolInt, revV, tupV, listV, isi2E, setIS, dnewE, get2E, listRgE, tupRgE, rg1R, rg2R, rg3R, eqP_int, eqP_str, neP_int, neP_str, Bool.true_or, Bool.false_or, Bool.or_true, Bool.or_false, Pu.calm, e0, h0, h1, l1, l2, t1, List.map_append, List.map_cons, List.map_nil, List.append_assoc] at e ⊢
        exact e
    · by_cases h1 : 0 < r1
      · obtain ⟨x', e⟩ := ih (k + 1) (nss ++ [[(k : Int) + 1, (k : Int), r1]]) (.sh (.int (0 + (k : Nat)))) (by omega) (by simp only [List.length_append, List.length_cons, List.length_nil]; omega)
        refine ⟨x', ?_⟩
        simp only [fillSl, List.length_cons, List.length_nil, List.replicate, List.cons_append, List.nil_append, List.getElem?_cons_zero, List.getElem?_cons_succ, List.set_cons_zero, List.set_cons_succ, Nat.reduceAdd, Nat.reduceSub, Nat.reduceLT, seqS, nxS, setS, dropS, retS, iteS, retV, asg, potS, potDivS, appS, extS, unpS, parS, asgPs, asgP, asgD, asgDs, calm, binE, unE, potE, constE, varE, andE, orE, notE, ifE, tupE, lstE, slE, optE, callE, callF, callKF, methE, isiE, argsE, argsOf, datsOf, resV, newT, newL, shq, shf_true, opF, cF, addV, mulV, ixV, slV, gtK, ltK, leK, geK, subK, addK, mulK, fdivK, modK, powK, intK, absK, isiB, Val.dat, Val.items, flat, flatA, isL, Bool.and_true, Bool.true_and, Bool.false_and, Bool.and_false, if_true, if_false, Bool.false_eq_true, Option.map_some, Option.map_none, Bool.not_true, Bool.not_false, decide_true, decide_false, reduceIte, reduceCtorEq, and_self, true_and, and_true, yesE_ap, sizeLine_eq, Nat.reduceLeDiff, frS, frzL, frz1, frzS, addW, subW, boolInt, revV, tupV, listV, isi2E, setIS, dnewE, get2E, listRgE, tupRgE, rg1R, rg2R, rg3R, eqP_int, eqP_str, neP_int, neP_str, Bool.true_or, Bool.false_or, Bool.or_true, Bool.or_false, Pu.calm, e0, h0, h1, l1, l2, t1, List.map_append, List.map_cons, List.map_nil, List.append_assoc] at e ⊢
        exact e
      · obtain ⟨x', e⟩ := ih (k + 1) nss (.sh (.int (0 + (k : Nat)))) (by omega) (by omega)
        refine ⟨x', ?_⟩
        simp only [fillSl, List.length_cons, List.length_nil, List.replicate, List.cons_append, List.nil_append, List.getElem?_cons_zero, List.getElem?_cons_succ, List.set_cons_zero, List.set_cons_succ, Nat.reduceAdd, Nat.reduceSub, Nat.reduceLT, seqS, nxS, setS, dropS, retS, iteS, retV, asg, potS, potDivS, appS, extS, unpS, parS, asgPs, asgP, asgD, asgDs, calm, binE, unE, potE, constE, varE, andE, orE, notE, ifE, tupE, lstE, slE, optE, callE, callF, callKF, methE, isiE, argsE, argsOf, datsOf, resV, newT, newL, shq, shf_true, opF, cF, addV, mulV, ixV, slV, gtK, ltK, leK, geK, subK, addK, mulK, fdivK, modK, powK, intK, absK, isiB, Val.dat, Val.items, flat, flatA, isL, Bool.and_true, Bool.true_and, Bool.false_and, Bool.and_false, if_true, if_false, Bool.false_eq_true, Option.map_some, Option.map_none, Bool.not_true, Bool.not_false, decide_true, decide_false, reduceIte, reduceCtorEq, and_self, true_and, and_true, yesE_ap, sizeLine_eq, Nat.reduceLeDiff, frS, frzL, frz1, frzS, addW, subW, boolInt, revV, tupV, listV, isi2E, setIS, dnewE, get2E, listRgE, tupRgE, rg1R, rg2R, rg3R, eqP_int, eqP_str, neP_int, neP_str, Bool.true_or, Bool.false_or, Bool.or_true, Bool.or_false, Pu.calm, e0, h0, h1] at e ⊢
        exact e
theorem rimL_mem {r0 r1 : Int} {n : Nat} {m : List Int} : m ∈ rimL r0 r1 0 n ↔ ∃ w : Nat, w < n ∧ ((0 < r0 ∧ m = [(w : Int), (w : Int) + 1, r0]) ∨ (0 < r1 ∧ m = [(w : Int) + 1, (w : Int), r1])) := by
  unfold rimL
  rw [List.mem_flatMap]
  constructor
  · rintro ⟨w, hw, h⟩
    rw [List.mem_range'_1] at hw
    refine ⟨w, by omega, ?_⟩
    rcases List.mem_append.mp h with h | h
    · split at h
      · rename_i c; exact .inl ⟨c, List.mem_singleton.mp h⟩
      · cases h
    · split at h
      · rename_i c; exact .inr ⟨c, List.mem_singleton.mp h⟩
      · cases h
  · rintro ⟨w, hw, h⟩
    refine ⟨w, List.mem_range'_1.mpr (by omega), List.mem_append.mpr ?_⟩
    rcases h with ⟨c, rfl⟩ | ⟨c, rfl⟩
    · exact .inl (by rw [if_pos c]; exact List.mem_singleton.mpr rfl)
    · exact .inr (by rw [if_pos c]; exact List.mem_singleton.mpr rfl)
/-! sorted -/
theorem tupsOf_map : ∀ nss : List (List Int), tupsOf (nss.map tupD) = some nss
  | [] => rfl
  | ns :: nss => by
    have e : intsOf (ns.map PyData.int) = some ns := intsOf_map ns
    simp only [List.map_cons, tupsOf, tupD, e]
    rw [tupsOf_map nss]
theorem sorted_tups (i : Nat) (nss : List (List Int)) (h : ∀ m ∈ nss, m.length = 3 ∧ ∀ j ∈ m, 0 ≤ j ∧ j < sortB) (hl : nss.length ≤ 63) : ∃ mss : List (List Int), sortedV [.ow i (.list (nss.map tupD))] = some (.fr (.list (mss.map tupD))) ∧ mss.Perm nss := by
  cases nss with
  | nil => exact ⟨[], rfl, .refl _⟩
  | cons ns nss =>
    refine ⟨sortK (TS.code sortB) (ns :: nss), ?_, sortK_perm _ _⟩
    have e1 : intsOf ((ns :: nss).map tupD) = none := rfl
    have e2 := tupsOf_map (ns :: nss)
    have hc : 1 ≤ ns.length ∧ nss.length < 63 ∧ ∀ m ∈ ns :: nss, m.length = ns.length ∧ ∀ i ∈ m, 0 ≤ i ∧ i < sortB := by
      have a := (h ns (List.mem_cons_self ..)).1
      refine ⟨by omega, by simp only [List.length_cons] at hl; omega, fun m hm => ⟨by rw [a]; exact (h m hm).1, (h m hm).2⟩⟩
    unfold sortedV
    simp only [Val.dat, Val.items, e1, e2]
    rw [if_pos hc]
    rfl
theorem eqvAll_ints : ∀ xs ys : List Int, PyData.eqvAll (xs.map .int) (ys.map .int) = decide (xs = ys)
  | [], [] => by simp [PyData.eqvAll]
  | [], y :: ys => by simp [PyData.eqvAll]
  | x :: xs, [] => by simp [PyData.eqvAll]
  | x :: xs, y :: ys => by
    simp only [List.map_cons, PyData.eqvAll, eqvAll_ints xs ys, PyData.eqv]
    rw [Bool.eq_iff_iff]
    simp
theorem eqv_tupD (xs ys : List Int) : PyData.eqv (tupD xs) (tupD ys) = decide (xs = ys) := by
  unfold tupD
  simp only [PyData.eqv, eqvAll_ints]
theorem lay_ints : ∀ ns : List Int, PyData.canLayAll0 (ns.map .int) = true ∧ PyData.depthAll (ns.map .int) = 0
  | [] => by simp [PyData.canLayAll0, PyData.depthAll]
  | n :: ns => by simp [PyData.canLayAll0, PyData.depthAll, PyData.canLay0, PyData.depth, lay_ints ns]
theorem lay_tups : ∀ nss : List (List Int), PyData.canLayAll0 (nss.map tupD) = true ∧ PyData.depthAll (nss.map tupD) ≤ 1
  | [] => by simp [PyData.canLayAll0, PyData.depthAll]
  | n :: nss => by
    have a := lay_tups nss
    have b := lay_ints n
    simp only [List.map_cons, PyData.canLayAll0, PyData.depthAll, tupD, PyData.canLay0, PyData.depth, b.1, b.2, Bool.true_and]
    exact ⟨a.1, Nat.max_le.mpr ⟨Nat.le_refl _, a.2⟩⟩
theorem in_tups (a b c : Int) (mss : List (List Int)) : inV' (.sh (.tuple [.int a, .int b, .int c])) (.fr (.list (mss.map tupD))) = some (.sh (.bool (decide ([a, b, c] ∈ mss)))) := by
  have s1 : SeqAt.shaped (.tuple [.int a, .int b, .int c]) = true := by
    simp only [SeqAt.shaped, PyData.canLay0, PyData.canLayAll0, PyData.depth, PyData.depthAll]; rfl
  have s2 : SeqAt.shaped (.list (mss.map tupD)) = true := by
    have a := lay_tups mss
    have a2 := a.2
    unfold SeqAt.shaped
    rw [Bool.and_eq_true]
    refine ⟨by simp only [PyData.canLay0, a.1], decide_eq_true ?_⟩
    simp only [PyData.depth]
    omega
  have e : (mss.map tupD).any (fun z => PyData.eqv z (.tuple [.int a, .int b, .int c])) = decide ([a, b, c] ∈ mss) := by
    rw [Bool.eq_iff_iff, List.any_eq_true, decide_eq_true_eq]
    constructor
    · rintro ⟨z, hz, e⟩
      obtain ⟨m, hm, rfl⟩ := List.mem_map.mp hz
      have := (eqv_tupD m [a, b, c]).symm.trans e
      rw [← of_decide_eq_true this]
      exact hm
    · intro h
      exact ⟨tupD [a, b, c], List.mem_map.mpr ⟨_, h, rfl⟩, (eqv_tupD [a, b, c] [a, b, c]).trans (decide_eq_true rfl)⟩
  unfold inV' inD
  simp only [Val.dat, s1, s2, and_self, if_true, e, Option.map_some]
section
variable {S W : Nat} {low : Int} {tb : List PyData} (R : Rule S W low tb)
include R
theorem rim_letters (cs : List PyData) (hn : cs.length ≤ 8) (p : Pot) : ∃ mss : List (List Int), F_rim_letters [.sh (rl S low tb), .sh (.list cs)] p = some (.fr (.list (mss.map tupD)), p) ∧ mss.Perm (rimL (rm0 low) (rm1 W low) 0 cs.length) := by
  have er := rims_in R p
  obtain ⟨x', e⟩ := rim_loop (rl S low tb) (.list cs) (rm0 low) (rm1 W low) p cs.length 0 [] .un (by omega) (Nat.le_refl _)
  rw [← List.range_eq_range', List.nil_append, List.map_nil] at e
  have hb0 : 0 ≤ rm0 low ∧ rm0 low < sortB := by
    have := R.lo
    unfold rm0 sortB
    omega
  have hb1 : 0 ≤ rm1 W low ∧ rm1 W low < sortB := by
    have := R.hi
    have := R.w12
    unfold rm1 sortB
    omega
  have hall : ∀ m ∈ rimL (rm0 low) (rm1 W low) 0 cs.length, m.length = 3 ∧ ∀ j ∈ m, 0 ≤ j ∧ j < sortB := fun m hm => by
    have hs : sortB = 1099511627776 := rfl
    obtain ⟨w, hw, ⟨c, rfl⟩ | ⟨c, rfl⟩⟩ := rimL_mem.mp hm
    · refine ⟨rfl, fun j hj => ?_⟩
      simp only [List.mem_cons, List.not_mem_nil, or_false] at hj
      rcases hj with rfl | rfl | rfl
      · omega
      · omega
      · exact hb0
    · refine ⟨rfl, fun j hj => ?_⟩
      simp only [List.mem_cons, List.not_mem_nil, or_false] at hj
      rcases hj with rfl | rfl | rfl
      · omega
      · omega
      · exact hb1
  have hlen : ∀ m k : Nat, (rimL (rm0 low) (rm1 W low) k m).length ≤ 2 * m := fun m => by
    induction m with
    | zero => exact fun k => Nat.le_refl _
    | succ m ih =>
      intro k
      have := ih (k + 1)
      rw [rimL_succ, List.length_append, List.length_append]
      split <;> split <;> simp only [List.length_cons, List.length_nil] <;> omega
  obtain ⟨mss, es, hp⟩ := sorted_tups 4 _ hall (by have := hlen cs.length 0; omega)
  refine ⟨mss, ?_, hp⟩
  have hr : sm62 (cs.length : Int) = true := sm62_nat (by omega)
  unfold F_rim_letters B_rim_letters defF
  generalize hB : (seqS (iteS (binE (opF gtK) (varE 2) (constE (.int 0))) (appS 4 (tupE [(varE 5), (binE addW (varE 5) (constE (.int 1))), (varE 2)])) nxS)
    (iteS (binE (opF gtK) (varE 3) (constE (.int 0))) (appS 4 (tupE [(binE addW (varE 5) (constE (.int 1))), (varE 5), (varE 3)])) nxS)) = B at e ⊢
  generalize rl S low tb = x0 at *
  unfold rangeD at *
  simp only [fillSl, List.length_cons, List.length_nil, List.replicate, List.cons_append, List.nil_append, List.getElem?_cons_zero, List.getElem?_cons_succ, List.set_cons_zero, List.set_cons_succ, Nat.reduceAdd, Nat.reduceSub, Nat.reduceLT, seqS, nxS, setS, dropS, retS, iteS, retV, asg, potS, potDivS, appS, extS, unpS, parS, asgPs, asgP, asgD, asgDs, calm, binE, unE, potE, constE, varE, andE, orE, notE, ifE, tupE, lstE, slE, optE, callE, callF, callKF, methE, isiE, argsE, argsOf, datsOf, resV, newT, newL, shq, shf_true, opF, cF, addV, mulV, ixV, slV, gtK, ltK, leK, geK, subK, addK, mulK, fdivK, modK, powK, intK, absK, isiB, Val.dat, Val.items, flat, flatA, isL, Bool.and_true, Bool.true_and, Bool.false_and, Bool.and_false, if_true, if_false, Bool.false_eq_true, Option.map_some, Option.map_none, Bool.not_true, Bool.not_false, decide_true, decide_false, reduceIte, reduceCtorEq, and_self, true_and, and_true, yesE_ap, sizeLine_eq, Nat.reduceLeDiff, frS, frzL, frz1, frzS, addW, subW, boolInt, revV, tupV, listV, isi2E, setIS, dnewE, get2E, listRgE, tupRgE, rg1R, rg2R, rg3R, eqP_int, eqP_str, neP_int, neP_str, Bool.true_or, Bool.false_or, Bool.or_true, Bool.or_false, er, asgD, asgDs, Pu.calm, forS, rng1I, rangeD, lenV, hr, Int.toNat_natCast, e, es]
end
end K94
namespace K94
open PySem PySem.Spec PyProof.Rows L2 Pu
/-! ### letters -/
def szI (r0 r1 a b : Int) (c : Nat) : Bool := decide ((b - a = 1 ∧ 0 < r0 ∧ (c : Int) = r0) ∨ (b - a = -1 ∧ 0 < r1 ∧ (c : Int) = r1))
def sz (r0 r1 : Int) (a b w : PyData) : Bool := match a, b, w with
  | .int i, .int j, .tuple ws => szI r0 r1 i j ws.length
  | _, _, _ => false
def letL (s r0 r1 : Int) (n : Nat) (z : Str) (a b c w : PyData) : Bool := decide (z = "letter") && ((wh a 0 n && wh b 0 n) && (wh c 0 1000 && (wordB s w && sz r0 r1 a b w)))
def letB (s r0 r1 : Int) (n : Nat) (d : PyData) : Bool := match d with
  | .tuple [.str z, a, b, c, w] => letL s r0 r1 n z a b c w
  | _ => false
theorem cut13 {α : Type} (a b c d e : PyData) : Pu.cutD [a, b, c, d, e] (some 1) (some 3) = [b, c] := rfl
theorem cut13' {α : Type} (a b c d : PyData) : Pu.cutD [a, b, c, d] (some 1) (some 3) = [b, c] := rfl
theorem wh_int {d : PyData} {lo hi : Int} (h : wh d lo hi = true) : ∃ i : Int, d = .int i ∧ lo ≤ i ∧ i ≤ hi := by
  cases d with
  | int i =>
    simp only [wh, Bool.and_eq_true, decide_eq_true_eq] at h
    exact ⟨i, rfl, h⟩
  | _ => cases h
theorem all2 (f : PyData → Bool) (a b : PyData) : [a, b].all f = (f a && f b) := by simp only [List.all_cons, List.all_nil, Bool.and_true]
theorem len5 {ds : List PyData} (h : ds.length = 5) : ∃ a b c d e, ds = [a, b, c, d, e] := by
  match ds, h with
  | [a, b, c, d, e], _ => exact ⟨a, b, c, d, e, rfl⟩
theorem neP_len (n : Nat) (k : Nat) (h : n ≠ k) : neP (.int (n : Int)) (.int (k : Int)) = some (.bool true) := by
  rw [neP_int, decide_eq_false (by omega : ¬ ((n : Int) = (k : Int)))]; rfl
theorem eqP_len (n : Nat) (k : Nat) (h : n ≠ k) : eqP (.int (n : Int)) (.int (k : Int)) = some (.bool false) := by
  rw [eqP_int, decide_eq_false (by omega : ¬ ((n : Int) = (k : Int)))]
theorem letB_ne (s r0 r1 : Int) (n : Nat) {ds : List PyData} (h : ¬ ds.length = 5) : letB s r0 r1 n (.tuple ds) = false := by
  match ds, h with
  | [], _ => rfl
  | [a], _ => cases a <;> rfl
  | [a, _], _ => cases a <;> rfl
  | [a, _, _], _ => cases a <;> rfl
  | [a, _, _, _], _ => cases a <;> rfl
  | [_, _, _, _, _], h => exact absurd rfl h
  | a :: _ :: _ :: _ :: _ :: _ :: _, _ => cases a <;> rfl
section
variable (s r0 r1 : Int) (cs : List PyData) (p : Pot)
theorem law_letter5 (z : Str) (a b c w : PyData) (hw : ∀ ds, w = .tuple ds → ds.length ≤ 16777216) :
    F_law_is_letter [.sh (.int s), .sh (.tuple [.int r0, .int r1]), .sh (.list cs), .sh (.tuple [.str z, a, b, c, w])] p = some (.sh (.bool (letL s r0 r1 cs.length z a b c w)), p) := by
  have c1 := compL_map (t := .nm 5) (fe := callF F_law_is_whole [(varE 5), (constE (.int 0)), (callE lenV [(varE 2)])]) (sl := [.sh (.int s), .sh (.tuple [.int r0, .int r1]), .sh (.list cs), .sh (.tuple [.str z, a, b, c, w]), .un, .un]) (fun d => .bool (wh d 0 cs.length)) [a, b]
    (fun d _ => ⟨_, rfl, fun p => ⟨.sh (.bool (wh d 0 cs.length)), by simp only [fillSl, List.length_cons, List.length_nil, List.replicate, List.cons_append, List.nil_append, List.getElem?_cons_zero, List.getElem?_cons_succ, List.set_cons_zero, List.set_cons_succ, Nat.reduceAdd, Nat.reduceSub, Nat.reduceLT, seqS, nxS, setS, dropS, retS, iteS, retV, asg, potS, potDivS, appS, extS, unpS, parS, asgPs, asgP, asgD, asgDs, calm, binE, unE, potE, constE, varE, andE, orE, notE, ifE, tupE, lstE, slE, optE, callE, callF, callKF, methE, isiE, argsE, argsOf, datsOf, resV, newT, newL, shq, shf_true, opF, cF, addV, mulV, ixV, slV, gtK, ltK, leK, geK, subK, addK, mulK, fdivK, modK, powK, intK, absK, isiB, Val.dat, Val.items, flat, flatA, isL, Bool.and_true, Bool.true_and, Bool.false_and, Bool.and_false, if_true, if_false, Bool.false_eq_true, Option.map_some, Option.map_none, Bool.not_true, Bool.not_false, decide_true, decide_false, reduceIte, reduceCtorEq, and_self, true_and, and_true, yesE_ap, sizeLine_eq, Nat.reduceLeDiff, frS, frzL, frz1, frzS, addW, subW, boolInt, revV, tupV, listV, isi2E, setIS, dnewE, get2E, listRgE, tupRgE, rg1R, rg2R, rg3R, eqP_int, eqP_str, neP_int, neP_str, Bool.true_or, Bool.false_or, Bool.or_true, Bool.or_false, lenV, law_is_whole], rfl⟩⟩) p
  have c2 := fun ws => compL_map (t := .nm 5) (fe := callF F_law_is_whole [(varE 5), (constE (.int 0)), (binE subW (varE 0) (constE (.int 1)))]) (sl := [.sh (.int s), .sh (.tuple [.int r0, .int r1]), .sh (.list cs), .sh (.tuple [.str z, a, b, c, .tuple ws]), .un, .un]) (fun d => .bool (wh d 0 (s - 1))) ws
    (fun d _ => ⟨_, rfl, fun p => ⟨.sh (.bool (wh d 0 (s - 1))), by simp only [fillSl, List.length_cons, List.length_nil, List.replicate, List.cons_append, List.nil_append, List.getElem?_cons_zero, List.getElem?_cons_succ, List.set_cons_zero, List.set_cons_succ, Nat.reduceAdd, Nat.reduceSub, Nat.reduceLT, seqS, nxS, setS, dropS, retS, iteS, retV, asg, potS, potDivS, appS, extS, unpS, parS, asgPs, asgP, asgD, asgDs, calm, binE, unE, potE, constE, varE, andE, orE, notE, ifE, tupE, lstE, slE, optE, callE, callF, callKF, methE, isiE, argsE, argsOf, datsOf, resV, newT, newL, shq, shf_true, opF, cF, addV, mulV, ixV, slV, gtK, ltK, leK, geK, subK, addK, mulK, fdivK, modK, powK, intK, absK, isiB, Val.dat, Val.items, flat, flatA, isL, Bool.and_true, Bool.true_and, Bool.false_and, Bool.and_false, if_true, if_false, Bool.false_eq_true, Option.map_some, Option.map_none, Bool.not_true, Bool.not_false, decide_true, decide_false, reduceIte, reduceCtorEq, and_self, true_and, and_true, yesE_ap, sizeLine_eq, Nat.reduceLeDiff, frS, frzL, frz1, frzS, addW, subW, boolInt, revV, tupV, listV, isi2E, setIS, dnewE, get2E, listRgE, tupRgE, rg1R, rg2R, rg3R, eqP_int, eqP_str, neP_int, neP_str, Bool.true_or, Bool.false_or, Bool.or_true, Bool.or_false, law_is_whole], rfl⟩⟩) p
  have l2 : [a, b].length ≤ 16777216 := (by decide : 2 ≤ 16777216)
  have l5 : ((5 : Nat) : Int) = 5 := rfl
  unfold F_law_is_letter B_law_is_letter defF letL
  cases hz : decide (z = "letter") with
  | true =>
    cases hab : wh a 0 cs.length && wh b 0 cs.length with
    | true =>
      obtain ⟨ha, hb⟩ := (Bool.and_eq_true _ _).mp hab
      cases hc : wh c 0 1000 with
      | true =>
        cases w with
        | tuple ws =>
          have hl := hw ws rfl
          have c2' := c2 ws
          cases hd : ws.all fun d => wh d 0 (s - 1) with
          | true =>
            obtain ⟨i, rfl, _, _⟩ := wh_int ha
            obtain ⟨j, rfl, _, _⟩ := wh_int hb
            have g1 : ∀ u v : Int, kEq (.int u) (.int v) = decide (u = v) := fun _ _ => rfl
            have dd : distinct [(PyData.int 1, PyData.int r0), (PyData.int (-1), PyData.int r1)] = true := rfl
            have dk : isDk [(PyData.int 1, PyData.int r0), (PyData.int (-1), PyData.int r1)] = true := rfl
            have fin : lookD [(PyData.int 1, PyData.int r0), (PyData.int (-1), PyData.int r1)] (.int (j - i)) = (if j - i = 1 then some (.int r0) else if j - i = -1 then some (.int r1) else none) := by
              unfold lookD
              simp only [List.find?_cons, g1]
              by_cases e1 : j - i = 1
              · rw [decide_eq_true (by omega : (1 : Int) = j - i), if_pos e1]
                rfl
              · rw [decide_eq_false (by omega : ¬ (1 : Int) = j - i), if_neg e1]
                by_cases e2 : j - i = -1
                · rw [decide_eq_true (by omega : (-1 : Int) = j - i), if_pos e2]
                  rfl
                · rw [decide_eq_false (by omega : ¬ (-1 : Int) = j - i), if_neg e2]
                  rfl
            have k1 : isKey (.int 1) = true := rfl
            have k2 : isKey (.int (-1)) = true := rfl
            have k3 : isKey (.int (j - i)) = true := rfl
            have l15 : [(PyData.int 1, PyData.int r0), (PyData.int (-1), PyData.int r1)].length ≤ 15 := (by decide : 2 ≤ 15)
            have gz : sz r0 r1 (.int i) (.int j) (.tuple ws) = szI r0 r1 i j ws.length := rfl
            by_cases e1 : j - i = 1
            · rw [if_pos e1] at fin
              have hgz : szI r0 r1 i j ws.length = (decide (0 < r0) && decide ((ws.length : Int) = r0)) := by
                unfold szI
                rw [Bool.eq_iff_iff, Bool.and_eq_true, decide_eq_true_eq, decide_eq_true_eq, decide_eq_true_eq]
                omega
              cases g0 : decide (0 < r0) <;> simp only [fillSl, List.length_cons, List.length_nil, List.replicate, List.cons_append, List.nil_append, List.getElem?_cons_zero, List.getElem?_cons_succ, List.set_cons_zero, List.set_cons_succ, Nat.reduceAdd, Nat.reduceSub, Nat.reduceLT, seqS, nxS, setS, dropS, retS, iteS, retV, asg, potS, potDivS, appS, extS, unpS, parS, asgPs, asgP, asgD, asgDs, calm, binE, unE, potE, constE, varE, andE, orE, notE, ifE, tupE, lstE, slE, optE, callE, callF, callKF, methE, isiE, argsE, argsOf, datsOf, resV, newT, newL, shq, shf_true, opF, cF, addV, mulV, ixV, slV, gtK, ltK, leK, geK, subK, addK, mulK, fdivK, modK, powK, intK, absK, isiB, Val.dat, Val.items, flat, flatA, isL, Bool.and_true, Bool.true_and, Bool.false_and, Bool.and_false, if_true, if_false, Bool.false_eq_true, Option.map_some, Option.map_none, Bool.not_true, Bool.not_false, decide_true, decide_false, reduceIte, reduceCtorEq, and_self, true_and, and_true, yesE_ap, sizeLine_eq, Nat.reduceLeDiff, frS, frzL, frz1, frzS, addW, subW, boolInt, revV, tupV, listV, isi2E, setIS, dnewE, get2E, listRgE, tupRgE, rg1R, rg2R, rg3R, eqP_int, eqP_str, neP_int, neP_str, Bool.true_or, Bool.false_or, Bool.or_true, Bool.or_false, lenV, atI0, atI1, atI2, atI3, atI4, neP_int, l5, hz, slE, optE, slV, cut13 (α := PyData), lcE, itJ, wipeSl, c1, List.length_map, l2, all_bools, all2, hab, law_is_whole, hc, c2', hl, hd, dictE, pairsE, k1, k2, k3, negV, dd, dk, l15, fin, wordB, gz, hgz, g0]
            · rw [if_neg e1] at fin
              by_cases e2 : j - i = -1
              · rw [if_pos e2] at fin
                have hgz : szI r0 r1 i j ws.length = (decide (0 < r1) && decide ((ws.length : Int) = r1)) := by
                  unfold szI
                  rw [Bool.eq_iff_iff, Bool.and_eq_true, decide_eq_true_eq, decide_eq_true_eq, decide_eq_true_eq]
                  omega
                cases g0 : decide (0 < r1) <;> simp only [fillSl, List.length_cons, List.length_nil, List.replicate, List.cons_append, List.nil_append, List.getElem?_cons_zero, List.getElem?_cons_succ, List.set_cons_zero, List.set_cons_succ, Nat.reduceAdd, Nat.reduceSub, Nat.reduceLT, seqS, nxS, setS, dropS, retS, iteS, retV, asg, potS, potDivS, appS, extS, unpS, parS, asgPs, asgP, asgD, asgDs, calm, binE, unE, potE, constE, varE, andE, orE, notE, ifE, tupE, lstE, slE, optE, callE, callF, callKF, methE, isiE, argsE, argsOf, datsOf, resV, newT, newL, shq, shf_true, opF, cF, addV, mulV, ixV, slV, gtK, ltK, leK, geK, subK, addK, mulK, fdivK, modK, powK, intK, absK, isiB, Val.dat, Val.items, flat, flatA, isL, Bool.and_true, Bool.true_and, Bool.false_and, Bool.and_false, if_true, if_false, Bool.false_eq_true, Option.map_some, Option.map_none, Bool.not_true, Bool.not_false, decide_true, decide_false, reduceIte, reduceCtorEq, and_self, true_and, and_true, yesE_ap, sizeLine_eq, Nat.reduceLeDiff, frS, frzL, frz1, frzS, addW, subW, boolInt, revV, tupV, listV, isi2E, setIS, dnewE, get2E, listRgE, tupRgE, rg1R, rg2R, rg3R, eqP_int, eqP_str, neP_int, neP_str, Bool.true_or, Bool.false_or, Bool.or_true, Bool.or_false, lenV, atI0, atI1, atI2, atI3, atI4, neP_int, l5, hz, slE, optE, slV, cut13 (α := PyData), lcE, itJ, wipeSl, c1, List.length_map, l2, all_bools, all2, hab, law_is_whole, hc, c2', hl, hd, dictE, pairsE, k1, k2, k3, negV, dd, dk, l15, fin, wordB, gz, hgz, g0]
              · rw [if_neg e2] at fin
                have hgz : szI r0 r1 i j ws.length = false := by
                  unfold szI
                  exact decide_eq_false (by omega)
                have g0 : decide ((0 : Int) < 0) = false := rfl
                simp only [fillSl, List.length_cons, List.length_nil, List.replicate, List.cons_append, List.nil_append, List.getElem?_cons_zero, List.getElem?_cons_succ, List.set_cons_zero, List.set_cons_succ, Nat.reduceAdd, Nat.reduceSub, Nat.reduceLT, seqS, nxS, setS, dropS, retS, iteS, retV, asg, potS, potDivS, appS, extS, unpS, parS, asgPs, asgP, asgD, asgDs, calm, binE, unE, potE, constE, varE, andE, orE, notE, ifE, tupE, lstE, slE, optE, callE, callF, callKF, methE, isiE, argsE, argsOf, datsOf, resV, newT, newL, shq, shf_true, opF, cF, addV, mulV, ixV, slV, gtK, ltK, leK, geK, subK, addK, mulK, fdivK, modK, powK, intK, absK, isiB, Val.dat, Val.items, flat, flatA, isL, Bool.and_true, Bool.true_and, Bool.false_and, Bool.and_false, if_true, if_false, Bool.false_eq_true, Option.map_some, Option.map_none, Bool.not_true, Bool.not_false, decide_true, decide_false, reduceIte, reduceCtorEq, and_self, true_and, and_true, yesE_ap, sizeLine_eq, Nat.reduceLeDiff, frS, frzL, frz1, frzS, addW, subW, boolInt, revV, tupV, listV, isi2E, setIS, dnewE, get2E, listRgE, tupRgE, rg1R, rg2R, rg3R, eqP_int, eqP_str, neP_int, neP_str, Bool.true_or, Bool.false_or, Bool.or_true, Bool.or_false, lenV, atI0, atI1, atI2, atI3, atI4, neP_int, l5, hz, slE, optE, slV, cut13 (α := PyData), lcE, itJ, wipeSl, c1, List.length_map, l2, all_bools, all2, hab, law_is_whole, hc, c2', hl, hd, dictE, pairsE, k1, k2, k3, negV, dd, dk, l15, fin, wordB, gz, hgz, g0]
          | false => simp only [fillSl, List.length_cons, List.length_nil, List.replicate, List.cons_append, List.nil_append, List.getElem?_cons_zero, List.getElem?_cons_succ, List.set_cons_zero, List.set_cons_succ, Nat.reduceAdd, Nat.reduceSub, Nat.reduceLT, seqS, nxS, setS, dropS, retS, iteS, retV, asg, potS, potDivS, appS, extS, unpS, parS, asgPs, asgP, asgD, asgDs, calm, binE, unE, potE, constE, varE, andE, orE, notE, ifE, tupE, lstE, slE, optE, callE, callF, callKF, methE, isiE, argsE, argsOf, datsOf, resV, newT, newL, shq, shf_true, opF, cF, addV, mulV, ixV, slV, gtK, ltK, leK, geK, subK, addK, mulK, fdivK, modK, powK, intK, absK, isiB, Val.dat, Val.items, flat, flatA, isL, Bool.and_true, Bool.true_and, Bool.false_and, Bool.and_false, if_true, if_false, Bool.false_eq_true, Option.map_some, Option.map_none, Bool.not_true, Bool.not_false, decide_true, decide_false, reduceIte, reduceCtorEq, and_self, true_and, and_true, yesE_ap, sizeLine_eq, Nat.reduceLeDiff, frS, frzL, frz1, frzS, addW, subW, boolInt, revV, tupV, listV, isi2E, setIS, dnewE, get2E, listRgE, tupRgE, rg1R, rg2R, rg3R, eqP_int, eqP_str, neP_int, neP_str, Bool.true_or, Bool.false_or, Bool.or_true, Bool.or_false, lenV, atI0, atI3, atI4, shf_true, neP_int, l5, hz, slE, optE, slV, cut13 (α := PyData), lcE, itJ, wipeSl, c1, List.length_map, l2, all_bools, all2, hab, law_is_whole, hc, c2', hl, hd, wordB]
        | _ => simp only [fillSl, List.length_cons, List.length_nil, List.replicate, List.cons_append, List.nil_append, List.getElem?_cons_zero, List.getElem?_cons_succ, List.set_cons_zero, List.set_cons_succ, Nat.reduceAdd, Nat.reduceSub, Nat.reduceLT, seqS, nxS, setS, dropS, retS, iteS, retV, asg, potS, potDivS, appS, extS, unpS, parS, asgPs, asgP, asgD, asgDs, calm, binE, unE, potE, constE, varE, andE, orE, notE, ifE, tupE, lstE, slE, optE, callE, callF, callKF, methE, isiE, argsE, argsOf, datsOf, resV, newT, newL, shq, shf_true, opF, cF, addV, mulV, ixV, slV, gtK, ltK, leK, geK, subK, addK, mulK, fdivK, modK, powK, intK, absK, isiB, Val.dat, Val.items, flat, flatA, isL, Bool.and_true, Bool.true_and, Bool.false_and, Bool.and_false, if_true, if_false, Bool.false_eq_true, Option.map_some, Option.map_none, Bool.not_true, Bool.not_false, decide_true, decide_false, reduceIte, reduceCtorEq, and_self, true_and, and_true, yesE_ap, sizeLine_eq, Nat.reduceLeDiff, frS, frzL, frz1, frzS, addW, subW, boolInt, revV, tupV, listV, isi2E, setIS, dnewE, get2E, listRgE, tupRgE, rg1R, rg2R, rg3R, eqP_int, eqP_str, neP_int, neP_str, Bool.true_or, Bool.false_or, Bool.or_true, Bool.or_false, lenV, atI0, atI3, atI4, shf_true, neP_int, l5, hz, slE, optE, slV, cut13 (α := PyData), lcE, itJ, wipeSl, c1, List.length_map, l2, all_bools, all2, hab, law_is_whole, hc, wordB]
      | false => simp only [fillSl, List.length_cons, List.length_nil, List.replicate, List.cons_append, List.nil_append, List.getElem?_cons_zero, List.getElem?_cons_succ, List.set_cons_zero, List.set_cons_succ, Nat.reduceAdd, Nat.reduceSub, Nat.reduceLT, seqS, nxS, setS, dropS, retS, iteS, retV, asg, potS, potDivS, appS, extS, unpS, parS, asgPs, asgP, asgD, asgDs, calm, binE, unE, potE, constE, varE, andE, orE, notE, ifE, tupE, lstE, slE, optE, callE, callF, callKF, methE, isiE, argsE, argsOf, datsOf, resV, newT, newL, shq, shf_true, opF, cF, addV, mulV, ixV, slV, gtK, ltK, leK, geK, subK, addK, mulK, fdivK, modK, powK, intK, absK, isiB, Val.dat, Val.items, flat, flatA, isL, Bool.and_true, Bool.true_and, Bool.false_and, Bool.and_false, if_true, if_false, Bool.false_eq_true, Option.map_some, Option.map_none, Bool.not_true, Bool.not_false, decide_true, decide_false, reduceIte, reduceCtorEq, and_self, true_and, and_true, yesE_ap, sizeLine_eq, Nat.reduceLeDiff, frS, frzL, frz1, frzS, addW, subW, boolInt, revV, tupV, listV, isi2E, setIS, dnewE, get2E, listRgE, tupRgE, rg1R, rg2R, rg3R, eqP_int, eqP_str, neP_int, neP_str, Bool.true_or, Bool.false_or, Bool.or_true, Bool.or_false, lenV, atI0, atI3, shf_true, neP_int, l5, hz, slE, optE, slV, cut13 (α := PyData), lcE, itJ, wipeSl, c1, List.length_map, l2, all_bools, all2, hab, law_is_whole, hc]
    | false => simp only [fillSl, List.length_cons, List.length_nil, List.replicate, List.cons_append, List.nil_append, List.getElem?_cons_zero, List.getElem?_cons_succ, List.set_cons_zero, List.set_cons_succ, Nat.reduceAdd, Nat.reduceSub, Nat.reduceLT, seqS, nxS, setS, dropS, retS, iteS, retV, asg, potS, potDivS, appS, extS, unpS, parS, asgPs, asgP, asgD, asgDs, calm, binE, unE, potE, constE, varE, andE, orE, notE, ifE, tupE, lstE, slE, optE, callE, callF, callKF, methE, isiE, argsE, argsOf, datsOf, resV, newT, newL, shq, shf_true, opF, cF, addV, mulV, ixV, slV, gtK, ltK, leK, geK, subK, addK, mulK, fdivK, modK, powK, intK, absK, isiB, Val.dat, Val.items, flat, flatA, isL, Bool.and_true, Bool.true_and, Bool.false_and, Bool.and_false, if_true, if_false, Bool.false_eq_true, Option.map_some, Option.map_none, Bool.not_true, Bool.not_false, decide_true, decide_false, reduceIte, reduceCtorEq, and_self, true_and, and_true, yesE_ap, sizeLine_eq, Nat.reduceLeDiff, frS, frzL, frz1, frzS, addW, subW, boolInt, revV, tupV, listV, isi2E, setIS, dnewE, get2E, listRgE, tupRgE, rg1R, rg2R, rg3R, eqP_int, eqP_str, neP_int, neP_str, Bool.true_or, Bool.false_or, Bool.or_true, Bool.or_false, lenV, atI0, shf_true, neP_int, l5, hz, slE, optE, slV, cut13 (α := PyData), lcE, itJ, wipeSl, c1, List.length_map, l2, all_bools, all2, hab]
  | false => simp only [fillSl, List.length_cons, List.length_nil, List.replicate, List.cons_append, List.nil_append, List.getElem?_cons_zero, List.getElem?_cons_succ, List.set_cons_zero, List.set_cons_succ, Nat.reduceAdd, Nat.reduceSub, Nat.reduceLT, seqS, nxS, setS, dropS, retS, iteS, retV, asg, potS, potDivS, appS, extS, unpS, parS, asgPs, asgP, asgD, asgDs, calm, binE, unE, potE, constE, varE, andE, orE, notE, ifE, tupE, lstE, slE, optE, callE, callF, callKF, methE, isiE, argsE, argsOf, datsOf, resV, newT, newL, shq, shf_true, opF, cF, addV, mulV, ixV, slV, gtK, ltK, leK, geK, subK, addK, mulK, fdivK, modK, powK, intK, absK, isiB, Val.dat, Val.items, flat, flatA, isL, Bool.and_true, Bool.true_and, Bool.false_and, Bool.and_false, if_true, if_false, Bool.false_eq_true, Option.map_some, Option.map_none, Bool.not_true, Bool.not_false, decide_true, decide_false, reduceIte, reduceCtorEq, and_self, true_and, and_true, yesE_ap, sizeLine_eq, Nat.reduceLeDiff, frS, frzL, frz1, frzS, addW, subW, boolInt, revV, tupV, listV, isi2E, setIS, dnewE, get2E, listRgE, tupRgE, rg1R, rg2R, rg3R, eqP_int, eqP_str, neP_int, neP_str, Bool.true_or, Bool.false_or, Bool.or_true, Bool.or_false, lenV, atI0, shf_true, neP_int, l5, hz]
theorem law_letter (d : PyData) (hl : ∀ z a b c ds, d = .tuple [z, a, b, c, .tuple ds] → ds.length ≤ 16777216) :
    F_law_is_letter [.sh (.int s), .sh (.tuple [.int r0, .int r1]), .sh (.list cs), .sh d] p = some (.sh (.bool (letB s r0 r1 cs.length d)), p) := by
  cases d with
  | tuple ds =>
    by_cases h5 : ds.length = 5
    · obtain ⟨z, a, b, c, w, rfl⟩ := len5 h5
      have l5 : ((5 : Nat) : Int) = 5 := rfl
      cases z with
      | str z => exact law_letter5 s r0 r1 cs p z a b c w (fun ds e => hl _ _ _ _ ds (by rw [e]))
      | _ =>
        unfold F_law_is_letter B_law_is_letter defF
        simp only [fillSl, List.length_cons, List.length_nil, List.replicate, List.cons_append, List.nil_append, List.getElem?_cons_zero, List.getElem?_cons_succ, List.set_cons_zero, List.set_cons_succ, Nat.reduceAdd, Nat.reduceSub, Nat.reduceLT, seqS, nxS, setS, dropS, retS, iteS, retV, asg, potS, potDivS, appS, extS, unpS, parS, asgPs, asgP, asgD, asgDs, calm, binE, unE, potE, constE, varE, andE, orE, notE, ifE, tupE, lstE, slE, optE, callE, callF, callKF, methE, isiE, argsE, argsOf, datsOf, resV, newT, newL, shq, shf_true, opF, cF, addV, mulV, ixV, slV, gtK, ltK, leK, geK, subK, addK, mulK, fdivK, modK, powK, intK, absK, isiB, Val.dat, Val.items, flat, flatA, isL, Bool.and_true, Bool.true_and, Bool.false_and, Bool.and_false, if_true, if_false, Bool.false_eq_true, Option.map_some, Option.map_none, Bool.not_true, Bool.not_false, decide_true, decide_false, reduceIte, reduceCtorEq, and_self, true_and, and_true, yesE_ap, sizeLine_eq, Nat.reduceLeDiff, frS, frzL, frz1, frzS, addW, subW, boolInt, revV, tupV, listV, isi2E, setIS, dnewE, get2E, listRgE, tupRgE, rg1R, rg2R, rg3R, eqP_int, eqP_str, neP_int, neP_str, Bool.true_or, Bool.false_or, Bool.or_true, Bool.or_false, lenV, atI0, shf_true, l5, letB]
    · have e : ¬ ((ds.length : Int) = 5) := by omega
      unfold F_law_is_letter B_law_is_letter defF
      rw [letB_ne s r0 r1 cs.length h5]
      generalize hk : (ds.length : Int) = k at *
      simp only [fillSl, List.length_cons, List.length_nil, List.replicate, List.cons_append, List.nil_append, List.getElem?_cons_zero, List.getElem?_cons_succ, List.set_cons_zero, List.set_cons_succ, Nat.reduceAdd, Nat.reduceSub, Nat.reduceLT, seqS, nxS, setS, dropS, retS, iteS, retV, asg, potS, potDivS, appS, extS, unpS, parS, asgPs, asgP, asgD, asgDs, calm, binE, unE, potE, constE, varE, andE, orE, notE, ifE, tupE, lstE, slE, optE, callE, callF, callKF, methE, isiE, argsE, argsOf, datsOf, resV, newT, newL, shq, shf_true, opF, cF, addV, mulV, ixV, slV, gtK, ltK, leK, geK, subK, addK, mulK, fdivK, modK, powK, intK, absK, isiB, Val.dat, Val.items, flat, flatA, isL, Bool.and_true, Bool.true_and, Bool.false_and, Bool.and_false, if_true, if_false, Bool.false_eq_true, Option.map_some, Option.map_none, Bool.not_true, Bool.not_false, decide_true, decide_false, reduceIte, reduceCtorEq, and_self, true_and, and_true, yesE_ap, sizeLine_eq, Nat.reduceLeDiff, frS, frzL, frz1, frzS, addW, subW, boolInt, revV, tupV, listV, isi2E, setIS, dnewE, get2E, listRgE, tupRgE, rg1R, rg2R, rg3R, eqP_int, eqP_str, neP_int, neP_str, Bool.true_or, Bool.false_or, Bool.or_true, Bool.or_false, lenV, hk, e]
  | _ =>
    unfold F_law_is_letter B_law_is_letter defF
    simp only [fillSl, List.length_cons, List.length_nil, List.replicate, List.cons_append, List.nil_append, List.getElem?_cons_zero, List.getElem?_cons_succ, List.set_cons_zero, List.set_cons_succ, Nat.reduceAdd, Nat.reduceSub, Nat.reduceLT, seqS, nxS, setS, dropS, retS, iteS, retV, asg, potS, potDivS, appS, extS, unpS, parS, asgPs, asgP, asgD, asgDs, calm, binE, unE, potE, constE, varE, andE, orE, notE, ifE, tupE, lstE, slE, optE, callE, callF, callKF, methE, isiE, argsE, argsOf, datsOf, resV, newT, newL, shq, shf_true, opF, cF, addV, mulV, ixV, slV, gtK, ltK, leK, geK, subK, addK, mulK, fdivK, modK, powK, intK, absK, isiB, Val.dat, Val.items, flat, flatA, isL, Bool.and_true, Bool.true_and, Bool.false_and, Bool.and_false, if_true, if_false, Bool.false_eq_true, Option.map_some, Option.map_none, Bool.not_true, Bool.not_false, decide_true, decide_false, reduceIte, reduceCtorEq, and_self, true_and, and_true, yesE_ap, sizeLine_eq, Nat.reduceLeDiff, frS, frzL, frz1, frzS, addW, subW, boolInt, revV, tupV, listV, isi2E, setIS, dnewE, get2E, listRgE, tupRgE, rg1R, rg2R, rg3R, eqP_int, eqP_str, neP_int, neP_str, Bool.true_or, Bool.false_or, Bool.or_true, Bool.or_false, letB]
end
end K94
namespace K94
open PySem PySem.Spec PyProof.Rows L2 Pu
section
variable {S W : Nat} {low : Int} {tb : List PyData} (R : Rule S W low tb)
include R
theorem sz_rim {mss : List (List Int)} {n : Nat} (hp : mss.Perm (rimL (rm0 low) (rm1 W low) 0 n)) {i j : Int} (hi : 0 ≤ i ∧ i ≤ n) (hj : 0 ≤ j ∧ j ≤ n) (c : Nat) : decide ([i, j, (c : Int)] ∈ mss) = szI (rm0 low) (rm1 W low) i j c := by
  unfold szI
  rw [Bool.eq_iff_iff, decide_eq_true_eq, decide_eq_true_eq, hp.mem_iff, rimL_mem]
  constructor
  · rintro ⟨w, hw, ⟨c0, e⟩ | ⟨c0, e⟩⟩
    · obtain ⟨e1, e2, e3⟩ : i = w ∧ j = (w : Int) + 1 ∧ (c : Int) = rm0 low := by simpa only [List.cons.injEq, and_true] using e
      exact .inl ⟨by omega, c0, e3⟩
    · obtain ⟨e1, e2, e3⟩ : i = (w : Int) + 1 ∧ j = w ∧ (c : Int) = rm1 W low := by simpa only [List.cons.injEq, and_true] using e
      exact .inr ⟨by omega, c0, e3⟩
  · rintro (⟨h1, h2, h3⟩ | ⟨h1, h2, h3⟩)
    · refine ⟨i.toNat, by omega, .inl ⟨h2, ?_⟩⟩
      rw [h3, show ((i.toNat : Nat) : Int) = i by omega, show j = i + 1 by omega]
    · refine ⟨j.toNat, by omega, .inr ⟨h2, ?_⟩⟩
      rw [h3, show ((j.toNat : Nat) : Int) = j by omega, show i = j + 1 by omega]
theorem letter_of5 (cs : List PyData) (hn : cs.length ≤ 8) (p : Pot) (z : Str) (a b c w : PyData) (hw : ∀ ds, w = .tuple ds → ds.length ≤ 16777216) :
    F_is_letter_of [.sh (rl S low tb), .sh (.list cs), .sh (.tuple [.str z, a, b, c, w])] p = some (.sh (.bool (letL S (rm0 low) (rm1 W low) cs.length z a b c w)), p) := by
  have c1 := compL_map (t := .nm 3) (fe := callF F_is_within [(varE 3), (constE (.int 0)), (callE lenV [(varE 1)])]) (sl := [.sh (rl S low tb), .sh (.list cs), .sh (.tuple [.str z, a, b, c, w]), .un]) (fun d => .bool (wh d 0 cs.length)) [a, b]
    (fun d _ => ⟨_, rfl, fun p => ⟨.sh (.bool (wh d 0 cs.length)), by simp only [fillSl, List.length_cons, List.length_nil, List.replicate, List.cons_append, List.nil_append, List.getElem?_cons_zero, List.getElem?_cons_succ, List.set_cons_zero, List.set_cons_succ, Nat.reduceAdd, Nat.reduceSub, Nat.reduceLT, seqS, nxS, setS, dropS, retS, iteS, retV, asg, potS, potDivS, appS, extS, unpS, parS, asgPs, asgP, asgD, asgDs, calm, binE, unE, potE, constE, varE, andE, orE, notE, ifE, tupE, lstE, slE, optE, callE, callF, callKF, methE, isiE, argsE, argsOf, datsOf, resV, newT, newL, shq, shf_true, opF, cF, addV, mulV, ixV, slV, gtK, ltK, leK, geK, subK, addK, mulK, fdivK, modK, powK, intK, absK, isiB, Val.dat, Val.items, flat, flatA, isL, Bool.and_true, Bool.true_and, Bool.false_and, Bool.and_false, if_true, if_false, Bool.false_eq_true, Option.map_some, Option.map_none, Bool.not_true, Bool.not_false, decide_true, decide_false, reduceIte, reduceCtorEq, and_self, true_and, and_true, yesE_ap, sizeLine_eq, Nat.reduceLeDiff, frS, frzL, frz1, frzS, addW, subW, boolInt, revV, tupV, listV, isi2E, setIS, dnewE, get2E, listRgE, tupRgE, rg1R, rg2R, rg3R, eqP_int, eqP_str, neP_int, neP_str, Bool.true_or, Bool.false_or, Bool.or_true, Bool.or_false, lenV, is_within], rfl⟩⟩) p
  have l2 : [a, b].length ≤ 16777216 := (by decide : 2 ≤ 16777216)
  have l5 : ((5 : Nat) : Int) = 5 := rfl
  have t1 : F_is_tuple_of [.sh (.tuple [.str z, a, b, c, w]), .sh (.int 5)] p = some (.sh (.bool true), p) := by
    unfold F_is_tuple_of B_is_tuple_of defF
    simp only [fillSl, List.length_cons, List.length_nil, List.replicate, List.cons_append, List.nil_append, List.getElem?_cons_zero, List.getElem?_cons_succ, List.set_cons_zero, List.set_cons_succ, Nat.reduceAdd, Nat.reduceSub, Nat.reduceLT, seqS, nxS, setS, dropS, retS, iteS, retV, asg, potS, potDivS, appS, extS, unpS, parS, asgPs, asgP, asgD, asgDs, calm, binE, unE, potE, constE, varE, andE, orE, notE, ifE, tupE, lstE, slE, optE, callE, callF, callKF, methE, isiE, argsE, argsOf, datsOf, resV, newT, newL, shq, shf_true, opF, cF, addV, mulV, ixV, slV, gtK, ltK, leK, geK, subK, addK, mulK, fdivK, modK, powK, intK, absK, isiB, Val.dat, Val.items, flat, flatA, isL, Bool.and_true, Bool.true_and, Bool.false_and, Bool.and_false, if_true, if_false, Bool.false_eq_true, Option.map_some, Option.map_none, Bool.not_true, Bool.not_false, decide_true, decide_false, reduceIte, reduceCtorEq, and_self, true_and, and_true, yesE_ap, sizeLine_eq, Nat.reduceLeDiff, frS, frzL, frz1, frzS, addW, subW, boolInt, revV, tupV, listV, isi2E, setIS, dnewE, get2E, listRgE, tupRgE, rg1R, rg2R, rg3R, eqP_int, eqP_str, neP_int, neP_str, Bool.true_or, Bool.false_or, Bool.or_true, Bool.or_false, lenV, eqP_int, l5]
  have t2 := word_of (S : Int) w p hw
  obtain ⟨mss, em, hp⟩ := rim_letters R cs hn p
  have hsz := fun (i j : Int) (hi : 0 ≤ i ∧ i ≤ cs.length) (hj : 0 ≤ j ∧ j ≤ cs.length) (c : Nat) => sz_rim R hp hi hj c
  have hin := fun (i j : Int) (c : Nat) => in_tups i j c mss
  unfold F_is_letter_of B_is_letter_of defF letL
  unfold rl at c1 em ⊢
  cases hz : decide (z = "letter") with
  | true =>
    cases hww : wordB S w with
    | true =>
      cases hab : wh a 0 cs.length && wh b 0 cs.length with
      | true =>
        obtain ⟨ha, hb⟩ := (Bool.and_eq_true _ _).mp hab
        cases hc : wh c 0 1000 with
        | true =>
          cases w with
          | tuple ws =>
            obtain ⟨i, rfl, hi⟩ := wh_int ha
            obtain ⟨j, rfl, hj⟩ := wh_int hb
            have gz : sz (rm0 low) (rm1 W low) (.int i) (.int j) (.tuple ws) = szI (rm0 low) (rm1 W low) i j ws.length := rfl
            have hin' := hin i j ws.length
            rw [hsz i j hi hj] at hin'
            simp only [fillSl, List.length_cons, List.length_nil, List.replicate, List.cons_append, List.nil_append, List.getElem?_cons_zero, List.getElem?_cons_succ, List.set_cons_zero, List.set_cons_succ, Nat.reduceAdd, Nat.reduceSub, Nat.reduceLT, seqS, nxS, setS, dropS, retS, iteS, retV, asg, potS, potDivS, appS, extS, unpS, parS, asgPs, asgP, asgD, asgDs, calm, binE, unE, potE, constE, varE, andE, orE, notE, ifE, tupE, lstE, slE, optE, callE, callF, callKF, methE, isiE, argsE, argsOf, datsOf, resV, newT, newL, shq, shf_true, opF, cF, addV, mulV, ixV, slV, gtK, ltK, leK, geK, subK, addK, mulK, fdivK, modK, powK, intK, absK, isiB, Val.dat, Val.items, flat, flatA, isL, Bool.and_true, Bool.true_and, Bool.false_and, Bool.and_false, if_true, if_false, Bool.false_eq_true, Option.map_some, Option.map_none, Bool.not_true, Bool.not_false, decide_true, decide_false, reduceIte, reduceCtorEq, and_self, true_and, and_true, yesE_ap, sizeLine_eq, Nat.reduceLeDiff, frS, frzL, frz1, frzS, addW, subW, boolInt, revV, tupV, listV, isi2E, setIS, dnewE, get2E, listRgE, tupRgE, rg1R, rg2R, rg3R, eqP_int, eqP_str, neP_int, neP_str, Bool.true_or, Bool.false_or, Bool.or_true, Bool.or_false, lenV, t1, t2, hww, atI0, atI1, atI2, atI3, atI4, shf_true, neP_int, hz, slE, optE, slV, cut13 (α := PyData), lcE, itJ, wipeSl, c1, List.length_map, l2, all_bools, all2, hab, is_within, hc, em, hin', gz]
          | _ => cases hww
        | false => simp only [fillSl, List.length_cons, List.length_nil, List.replicate, List.cons_append, List.nil_append, List.getElem?_cons_zero, List.getElem?_cons_succ, List.set_cons_zero, List.set_cons_succ, Nat.reduceAdd, Nat.reduceSub, Nat.reduceLT, seqS, nxS, setS, dropS, retS, iteS, retV, asg, potS, potDivS, appS, extS, unpS, parS, asgPs, asgP, asgD, asgDs, calm, binE, unE, potE, constE, varE, andE, orE, notE, ifE, tupE, lstE, slE, optE, callE, callF, callKF, methE, isiE, argsE, argsOf, datsOf, resV, newT, newL, shq, shf_true, opF, cF, addV, mulV, ixV, slV, gtK, ltK, leK, geK, subK, addK, mulK, fdivK, modK, powK, intK, absK, isiB, Val.dat, Val.items, flat, flatA, isL, Bool.and_true, Bool.true_and, Bool.false_and, Bool.and_false, if_true, if_false, Bool.false_eq_true, Option.map_some, Option.map_none, Bool.not_true, Bool.not_false, decide_true, decide_false, reduceIte, reduceCtorEq, and_self, true_and, and_true, yesE_ap, sizeLine_eq, Nat.reduceLeDiff, frS, frzL, frz1, frzS, addW, subW, boolInt, revV, tupV, listV, isi2E, setIS, dnewE, get2E, listRgE, tupRgE, rg1R, rg2R, rg3R, eqP_int, eqP_str, neP_int, neP_str, Bool.true_or, Bool.false_or, Bool.or_true, Bool.or_false, t1, t2, hww, atI0, atI1, atI3, atI4, shf_true, neP_int, hz, slE, optE, slV, cut13 (α := PyData), lcE, itJ, wipeSl, c1, List.length_map, l2, all_bools, all2, hab, is_within, hc]
      | false => simp only [fillSl, List.length_cons, List.length_nil, List.replicate, List.cons_append, List.nil_append, List.getElem?_cons_zero, List.getElem?_cons_succ, List.set_cons_zero, List.set_cons_succ, Nat.reduceAdd, Nat.reduceSub, Nat.reduceLT, seqS, nxS, setS, dropS, retS, iteS, retV, asg, potS, potDivS, appS, extS, unpS, parS, asgPs, asgP, asgD, asgDs, calm, binE, unE, potE, constE, varE, andE, orE, notE, ifE, tupE, lstE, slE, optE, callE, callF, callKF, methE, isiE, argsE, argsOf, datsOf, resV, newT, newL, shq, shf_true, opF, cF, addV, mulV, ixV, slV, gtK, ltK, leK, geK, subK, addK, mulK, fdivK, modK, powK, intK, absK, isiB, Val.dat, Val.items, flat, flatA, isL, Bool.and_true, Bool.true_and, Bool.false_and, Bool.and_false, if_true, if_false, Bool.false_eq_true, Option.map_some, Option.map_none, Bool.not_true, Bool.not_false, decide_true, decide_false, reduceIte, reduceCtorEq, and_self, true_and, and_true, yesE_ap, sizeLine_eq, Nat.reduceLeDiff, frS, frzL, frz1, frzS, addW, subW, boolInt, revV, tupV, listV, isi2E, setIS, dnewE, get2E, listRgE, tupRgE, rg1R, rg2R, rg3R, eqP_int, eqP_str, neP_int, neP_str, Bool.true_or, Bool.false_or, Bool.or_true, Bool.or_false, t1, t2, hww, atI0, atI1, atI3, atI4, shf_true, neP_int, hz, slE, optE, slV, cut13 (α := PyData), lcE, itJ, wipeSl, c1, List.length_map, l2, all_bools, all2, hab]
    | false => simp only [fillSl, List.length_cons, List.length_nil, List.replicate, List.cons_append, List.nil_append, List.getElem?_cons_zero, List.getElem?_cons_succ, List.set_cons_zero, List.set_cons_succ, Nat.reduceAdd, Nat.reduceSub, Nat.reduceLT, seqS, nxS, setS, dropS, retS, iteS, retV, asg, potS, potDivS, appS, extS, unpS, parS, asgPs, asgP, asgD, asgDs, calm, binE, unE, potE, constE, varE, andE, orE, notE, ifE, tupE, lstE, slE, optE, callE, callF, callKF, methE, isiE, argsE, argsOf, datsOf, resV, newT, newL, shq, shf_true, opF, cF, addV, mulV, ixV, slV, gtK, ltK, leK, geK, subK, addK, mulK, fdivK, modK, powK, intK, absK, isiB, Val.dat, Val.items, flat, flatA, isL, Bool.and_true, Bool.true_and, Bool.false_and, Bool.and_false, if_true, if_false, Bool.false_eq_true, Option.map_some, Option.map_none, Bool.not_true, Bool.not_false, decide_true, decide_false, reduceIte, reduceCtorEq, and_self, true_and, and_true, yesE_ap, sizeLine_eq, Nat.reduceLeDiff, frS, frzL, frz1, frzS, addW, subW, boolInt, revV, tupV, listV, isi2E, setIS, dnewE, get2E, listRgE, tupRgE, rg1R, rg2R, rg3R, eqP_int, eqP_str, neP_int, neP_str, Bool.true_or, Bool.false_or, Bool.or_true, Bool.or_false, t1, t2, hww, atI0, atI1, atI4, shf_true, neP_int, hz]
  | false => simp only [fillSl, List.length_cons, List.length_nil, List.replicate, List.cons_append, List.nil_append, List.getElem?_cons_zero, List.getElem?_cons_succ, List.set_cons_zero, List.set_cons_succ, Nat.reduceAdd, Nat.reduceSub, Nat.reduceLT, seqS, nxS, setS, dropS, retS, iteS, retV, asg, potS, potDivS, appS, extS, unpS, parS, asgPs, asgP, asgD, asgDs, calm, binE, unE, potE, constE, varE, andE, orE, notE, ifE, tupE, lstE, slE, optE, callE, callF, callKF, methE, isiE, argsE, argsOf, datsOf, resV, newT, newL, shq, shf_true, opF, cF, addV, mulV, ixV, slV, gtK, ltK, leK, geK, subK, addK, mulK, fdivK, modK, powK, intK, absK, isiB, Val.dat, Val.items, flat, flatA, isL, Bool.and_true, Bool.true_and, Bool.false_and, Bool.and_false, if_true, if_false, Bool.false_eq_true, Option.map_some, Option.map_none, Bool.not_true, Bool.not_false, decide_true, decide_false, reduceIte, reduceCtorEq, and_self, true_and, and_true, yesE_ap, sizeLine_eq, Nat.reduceLeDiff, frS, frzL, frz1, frzS, addW, subW, boolInt, revV, tupV, listV, isi2E, setIS, dnewE, get2E, listRgE, tupRgE, rg1R, rg2R, rg3R, eqP_int, eqP_str, neP_int, neP_str, Bool.true_or, Bool.false_or, Bool.or_true, Bool.or_false, t1, atI0, shf_true, neP_int, hz]
theorem letter_of (cs : List PyData) (hn : cs.length ≤ 8) (p : Pot) (d : PyData) (hl : ∀ z a b c ds, d = .tuple [z, a, b, c, .tuple ds] → ds.length ≤ 16777216) :
    F_is_letter_of [.sh (rl S low tb), .sh (.list cs), .sh d] p = some (.sh (.bool (letB S (rm0 low) (rm1 W low) cs.length d)), p) := by
  have l5 : ((5 : Nat) : Int) = 5 := rfl
  cases d with
  | tuple ds =>
    by_cases h5 : ds.length = 5
    · obtain ⟨z, a, b, c, w, rfl⟩ := len5 h5
      have t1 : F_is_tuple_of [.sh (.tuple [z, a, b, c, w]), .sh (.int 5)] p = some (.sh (.bool true), p) := by
        unfold F_is_tuple_of B_is_tuple_of defF
        simp only [fillSl, List.length_cons, List.length_nil, List.replicate, List.cons_append, List.nil_append, List.getElem?_cons_zero, List.getElem?_cons_succ, List.set_cons_zero, List.set_cons_succ, Nat.reduceAdd, Nat.reduceSub, Nat.reduceLT, seqS, nxS, setS, dropS, retS, iteS, retV, asg, potS, potDivS, appS, extS, unpS, parS, asgPs, asgP, asgD, asgDs, calm, binE, unE, potE, constE, varE, andE, orE, notE, ifE, tupE, lstE, slE, optE, callE, callF, callKF, methE, isiE, argsE, argsOf, datsOf, resV, newT, newL, shq, shf_true, opF, cF, addV, mulV, ixV, slV, gtK, ltK, leK, geK, subK, addK, mulK, fdivK, modK, powK, intK, absK, isiB, Val.dat, Val.items, flat, flatA, isL, Bool.and_true, Bool.true_and, Bool.false_and, Bool.and_false, if_true, if_false, Bool.false_eq_true, Option.map_some, Option.map_none, Bool.not_true, Bool.not_false, decide_true, decide_false, reduceIte, reduceCtorEq, and_self, true_and, and_true, yesE_ap, sizeLine_eq, Nat.reduceLeDiff, frS, frzL, frz1, frzS, addW, subW, boolInt, revV, tupV, listV, isi2E, setIS, dnewE, get2E, listRgE, tupRgE, rg1R, rg2R, rg3R, eqP_int, eqP_str, neP_int, neP_str, Bool.true_or, Bool.false_or, Bool.or_true, Bool.or_false, lenV, eqP_int, l5]
      cases z with
      | str z => exact letter_of5 R cs hn p z a b c w (fun ds e => hl _ _ _ _ ds (by rw [e]))
      | _ =>
        unfold F_is_letter_of B_is_letter_of defF
        simp only [fillSl, List.length_cons, List.length_nil, List.replicate, List.cons_append, List.nil_append, List.getElem?_cons_zero, List.getElem?_cons_succ, List.set_cons_zero, List.set_cons_succ, Nat.reduceAdd, Nat.reduceSub, Nat.reduceLT, seqS, nxS, setS, dropS, retS, iteS, retV, asg, potS, potDivS, appS, extS, unpS, parS, asgPs, asgP, asgD, asgDs, calm, binE, unE, potE, constE, varE, andE, orE, notE, ifE, tupE, lstE, slE, optE, callE, callF, callKF, methE, isiE, argsE, argsOf, datsOf, resV, newT, newL, shq, shf_true, opF, cF, addV, mulV, ixV, slV, gtK, ltK, leK, geK, subK, addK, mulK, fdivK, modK, powK, intK, absK, isiB, Val.dat, Val.items, flat, flatA, isL, Bool.and_true, Bool.true_and, Bool.false_and, Bool.and_false, if_true, if_false, Bool.false_eq_true, Option.map_some, Option.map_none, Bool.not_true, Bool.not_false, decide_true, decide_false, reduceIte, reduceCtorEq, and_self, true_and, and_true, yesE_ap, sizeLine_eq, Nat.reduceLeDiff, frS, frzL, frz1, frzS, addW, subW, boolInt, revV, tupV, listV, isi2E, setIS, dnewE, get2E, listRgE, tupRgE, rg1R, rg2R, rg3R, eqP_int, eqP_str, neP_int, neP_str, Bool.true_or, Bool.false_or, Bool.or_true, Bool.or_false, t1, atI0, shf_true, letB]
    · have e : ¬ ((ds.length : Int) = 5) := by omega
      have t1 : F_is_tuple_of [.sh (.tuple ds), .sh (.int 5)] p = some (.sh (.bool false), p) := by
        unfold F_is_tuple_of B_is_tuple_of defF
        generalize hk : (ds.length : Int) = k at *
        simp only [fillSl, List.length_cons, List.length_nil, List.replicate, List.cons_append, List.nil_append, List.getElem?_cons_zero, List.getElem?_cons_succ, List.set_cons_zero, List.set_cons_succ, Nat.reduceAdd, Nat.reduceSub, Nat.reduceLT, seqS, nxS, setS, dropS, retS, iteS, retV, asg, potS, potDivS, appS, extS, unpS, parS, asgPs, asgP, asgD, asgDs, calm, binE, unE, potE, constE, varE, andE, orE, notE, ifE, tupE, lstE, slE, optE, callE, callF, callKF, methE, isiE, argsE, argsOf, datsOf, resV, newT, newL, shq, shf_true, opF, cF, addV, mulV, ixV, slV, gtK, ltK, leK, geK, subK, addK, mulK, fdivK, modK, powK, intK, absK, isiB, Val.dat, Val.items, flat, flatA, isL, Bool.and_true, Bool.true_and, Bool.false_and, Bool.and_false, if_true, if_false, Bool.false_eq_true, Option.map_some, Option.map_none, Bool.not_true, Bool.not_false, decide_true, decide_false, reduceIte, reduceCtorEq, and_self, true_and, and_true, yesE_ap, sizeLine_eq, Nat.reduceLeDiff, frS, frzL, frz1, frzS, addW, subW, boolInt, revV, tupV, listV, isi2E, setIS, dnewE, get2E, listRgE, tupRgE, rg1R, rg2R, rg3R, eqP_int, eqP_str, neP_int, neP_str, Bool.true_or, Bool.false_or, Bool.or_true, Bool.or_false, lenV, hk, e]
      unfold F_is_letter_of B_is_letter_of defF
      rw [letB_ne _ _ _ _ h5]
      simp only [fillSl, List.length_cons, List.length_nil, List.replicate, List.cons_append, List.nil_append, List.getElem?_cons_zero, List.getElem?_cons_succ, List.set_cons_zero, List.set_cons_succ, Nat.reduceAdd, Nat.reduceSub, Nat.reduceLT, seqS, nxS, setS, dropS, retS, iteS, retV, asg, potS, potDivS, appS, extS, unpS, parS, asgPs, asgP, asgD, asgDs, calm, binE, unE, potE, constE, varE, andE, orE, notE, ifE, tupE, lstE, slE, optE, callE, callF, callKF, methE, isiE, argsE, argsOf, datsOf, resV, newT, newL, shq, shf_true, opF, cF, addV, mulV, ixV, slV, gtK, ltK, leK, geK, subK, addK, mulK, fdivK, modK, powK, intK, absK, isiB, Val.dat, Val.items, flat, flatA, isL, Bool.and_true, Bool.true_and, Bool.false_and, Bool.and_false, if_true, if_false, Bool.false_eq_true, Option.map_some, Option.map_none, Bool.not_true, Bool.not_false, decide_true, decide_false, reduceIte, reduceCtorEq, and_self, true_and, and_true, yesE_ap, sizeLine_eq, Nat.reduceLeDiff, frS, frzL, frz1, frzS, addW, subW, boolInt, revV, tupV, listV, isi2E, setIS, dnewE, get2E, listRgE, tupRgE, rg1R, rg2R, rg3R, eqP_int, eqP_str, neP_int, neP_str, Bool.true_or, Bool.false_or, Bool.or_true, Bool.or_false, t1]
  | _ =>
    unfold F_is_letter_of B_is_letter_of defF
    simp only [fillSl, List.length_cons, List.length_nil, List.replicate, List.cons_append, List.nil_append, List.getElem?_cons_zero, List.getElem?_cons_succ, List.set_cons_zero, List.set_cons_succ, Nat.reduceAdd, Nat.reduceSub, Nat.reduceLT, seqS, nxS, setS, dropS, retS, iteS, retV, asg, potS, potDivS, appS, extS, unpS, parS, asgPs, asgP, asgD, asgDs, calm, binE, unE, potE, constE, varE, andE, orE, notE, ifE, tupE, lstE, slE, optE, callE, callF, callKF, methE, isiE, argsE, argsOf, datsOf, resV, newT, newL, shq, shf_true, opF, cF, addV, mulV, ixV, slV, gtK, ltK, leK, geK, subK, addK, mulK, fdivK, modK, powK, intK, absK, isiB, Val.dat, Val.items, flat, flatA, isL, Bool.and_true, Bool.true_and, Bool.false_and, Bool.and_false, if_true, if_false, Bool.false_eq_true, Option.map_some, Option.map_none, Bool.not_true, Bool.not_false, decide_true, decide_false, reduceIte, reduceCtorEq, and_self, true_and, and_true, yesE_ap, sizeLine_eq, Nat.reduceLeDiff, frS, frzL, frz1, frzS, addW, subW, boolInt, revV, tupV, listV, isi2E, setIS, dnewE, get2E, listRgE, tupRgE, rg1R, rg2R, rg3R, eqP_int, eqP_str, neP_int, neP_str, Bool.true_or, Bool.false_or, Bool.or_true, Bool.or_false, F_is_tuple_of, B_is_tuple_of, defF, letB]
theorem is_letter (cs : List PyData) (hn : cs.length ≤ 8) (hc : cutsL (leastM (rm0 low) (rm1 W low)) cs = true) (p : Pot) (d : PyData) (hl : ∀ z a b c ds, d = .tuple [z, a, b, c, .tuple ds] → ds.length ≤ 16777216) :
    F_is_letter [.sh (rl S low tb), .sh (.list cs), .sh d] p = some (.sh (.bool (letB S (rm0 low) (rm1 W low) cs.length d)), p) := by
  have e1 := want_rule R p
  obtain ⟨v, e2⟩ := want_cuts R cs p (by omega) hc
  have e3 := letter_of R cs hn p d hl
  unfold F_is_letter B_is_letter defF
  generalize rl S low tb = x0 at *
  simp only [fillSl, List.length_cons, List.length_nil, List.replicate, List.cons_append, List.nil_append, List.getElem?_cons_zero, List.getElem?_cons_succ, List.set_cons_zero, List.set_cons_succ, Nat.reduceAdd, Nat.reduceSub, Nat.reduceLT, seqS, nxS, setS, dropS, retS, iteS, retV, asg, potS, potDivS, appS, extS, unpS, parS, asgPs, asgP, asgD, asgDs, calm, binE, unE, potE, constE, varE, andE, orE, notE, ifE, tupE, lstE, slE, optE, callE, callF, callKF, methE, isiE, argsE, argsOf, datsOf, resV, newT, newL, shq, shf_true, opF, cF, addV, mulV, ixV, slV, gtK, ltK, leK, geK, subK, addK, mulK, fdivK, modK, powK, intK, absK, isiB, Val.dat, Val.items, flat, flatA, isL, Bool.and_true, Bool.true_and, Bool.false_and, Bool.and_false, if_true, if_false, Bool.false_eq_true, Option.map_some, Option.map_none, Bool.not_true, Bool.not_false, decide_true, decide_false, reduceIte, reduceCtorEq, and_self, true_and, and_true, yesE_ap, sizeLine_eq, Nat.reduceLeDiff, frS, frzL, frz1, frzS, addW, subW, boolInt, revV, tupV, listV, isi2E, setIS, dnewE, get2E, listRgE, tupRgE, rg1R, rg2R, rg3R, eqP_int, eqP_str, neP_int, neP_str, Bool.true_or, Bool.false_or, Bool.or_true, Bool.or_false, e1, e2, e3]
end
end K94

namespace K94
open PySem PySem.Spec PyProof.Rows L2 Pu
/-! ### schedules -/
def isW (z : Str) : Bool := decide (z = "go") || decide (z = "fall")
def nextB (a b : PyData) : Bool := match a, b with
  | .int i, .int j => decide (j - i = 1 ∨ j - i = -1)
  | _, _ => false
def stepB (n : Nat) (d : PyData) : Bool := match d with
  | .tuple [.str z, a] => isW z && wh a 0 n
  | .tuple [.str z, a, b, c] => (!isW z && decide (z = "bring")) && ((wh a 0 n && wh b 0 n) && (nextB a b && wh c 0 1000))
  | _ => false
theorem strEqv (a b : Str) : PyData.eqv (.str a) (.str b) = decide (a = b) := by
  rw [Bool.eq_iff_iff]; simp [PyData.eqv]
theorem intEqv (a b : Int) : PyData.eqv (.int a) (.int b) = decide (a = b) := by
  rw [Bool.eq_iff_iff]; simp [PyData.eqv]
theorem in2 (z : Str) : inV' (.sh (.str z)) (.sh (.tuple [.str "go", .str "fall"])) = some (.sh (.bool (isW z))) := by
  have e : ([PyData.str "go", PyData.str "fall"].any fun y => PyData.eqv y (.str z)) = isW z := by
    unfold isW
    simp only [List.any_cons, List.any_nil, strEqv, Bool.or_false]
    rw [Bool.eq_iff_iff]
    simp only [Bool.or_eq_true, decide_eq_true_eq]
    exact ⟨fun h => h.imp Eq.symm Eq.symm, fun h => h.imp Eq.symm Eq.symm⟩
  have f : ([PyData.str "go", PyData.str "fall"].all flat) = true := rfl
  unfold inV' inD
  simp only [Val.dat, f, flat, and_self, if_true, e, Option.map_some]
theorem in3 (z : Str) : inV' (.sh (.str z)) (.sh (.tuple [.str "go", .str "fall", .str "bring"])) = some (.sh (.bool (isW z || decide (z = "bring")))) := by
  have e : ([PyData.str "go", PyData.str "fall", PyData.str "bring"].any fun y => PyData.eqv y (.str z)) = (isW z || decide (z = "bring")) := by
    unfold isW
    simp only [List.any_cons, List.any_nil, strEqv, Bool.or_false]
    rw [Bool.eq_iff_iff]
    simp only [Bool.or_eq_true, decide_eq_true_eq]
    constructor
    · rintro (h | h | h)
      · exact .inl (.inl h.symm)
      · exact .inl (.inr h.symm)
      · exact .inr h.symm
    · rintro ((h | h) | h)
      · exact .inl h.symm
      · exact .inr (.inl h.symm)
      · exact .inr (.inr h.symm)
  have f : ([PyData.str "go", PyData.str "fall", PyData.str "bring"].all flat) = true := rfl
  unfold inV' inD
  simp only [Val.dat, f, flat, and_self, if_true, e, Option.map_some]
theorem inI (k : Int) : inV' (.sh (.int k)) (.sh (.tuple [.int 1, .int (-1)])) = some (.sh (.bool (decide (k = 1 ∨ k = -1)))) := by
  have e : ([PyData.int 1, PyData.int (-1)].any fun y => PyData.eqv y (.int k)) = decide (k = 1 ∨ k = -1) := by
    simp only [List.any_cons, List.any_nil, intEqv, Bool.or_false]
    rw [Bool.eq_iff_iff]
    simp only [Bool.or_eq_true, decide_eq_true_eq]
    exact ⟨fun h => h.imp Eq.symm Eq.symm, fun h => h.imp Eq.symm Eq.symm⟩
  have f : ([PyData.int 1, PyData.int (-1)].all flat) = true := rfl
  unfold inV' inD
  simp only [Val.dat, f, flat, and_self, if_true, e, Option.map_some]
theorem eqP_nil (ds : List PyData) : eqP (.tuple ds) (.tuple []) = some (.bool (ds.length == 0)) := rfl
theorem isW_bring : isW "bring" = false := by decide
section
variable (cs : List PyData) (p : Pot)
theorem law_step_of (z : Str) (r : List PyData) : F_law_is_step [.sh (.list cs), .sh (.tuple (.str z :: r))] p = some (.sh (.bool (stepB cs.length (.tuple (.str z :: r)))), p) := by
  have l0 : ((r.length + 1) == 0) = false := rfl
  cases hz : isW z with
  | true =>
    match r with
    | [] =>
      have e : stepB cs.length (.tuple [.str z]) = false := rfl
      rw [e]
      unfold F_law_is_step B_law_is_step defF
      simp only [fillSl, List.length_cons, List.length_nil, List.replicate, List.cons_append, List.nil_append, List.getElem?_cons_zero, List.getElem?_cons_succ, List.set_cons_zero, List.set_cons_succ, Nat.reduceAdd, Nat.reduceSub, Nat.reduceLT, seqS, nxS, setS, dropS, retS, iteS, retV, asg, potS, potDivS, appS, extS, unpS, parS, asgPs, asgP, asgD, asgDs, calm, binE, unE, potE, constE, varE, andE, orE, notE, ifE, tupE, lstE, slE, optE, callE, callF, callKF, methE, isiE, argsE, argsOf, datsOf, resV, newT, newL, shq, shf_true, opF, cF, addV, mulV, ixV, slV, gtK, ltK, leK, geK, subK, addK, mulK, fdivK, modK, powK, intK, absK, isiB, Val.dat, Val.items, flat, flatA, isL, Bool.and_true, Bool.true_and, Bool.false_and, Bool.and_false, if_true, if_false, Bool.false_eq_true, Option.map_some, Option.map_none, Bool.not_true, Bool.not_false, decide_true, decide_false, reduceIte, reduceCtorEq, and_self, true_and, and_true, yesE_ap, sizeLine_eq, Nat.reduceLeDiff, frS, frzL, frz1, frzS, addW, subW, boolInt, revV, tupV, listV, isi2E, setIS, dnewE, get2E, listRgE, tupRgE, rg1R, rg2R, rg3R, eqP_int, eqP_str, neP_int, neP_str, Bool.true_or, Bool.false_or, Bool.or_true, Bool.or_false, Nat.reduceBEq, eqP_nil, l0, lenV, atI0, shf_true, in2, hz, eqP_int]
      rfl
    | [a] =>
      have e : stepB cs.length (.tuple [.str z, a]) = wh a 0 cs.length := by simp only [stepB, hz, Bool.true_and]
      have l2 : decide (((2 : Nat) : Int) = 2) = true := rfl
      rw [e]
      unfold F_law_is_step B_law_is_step defF
      simp only [fillSl, List.length_cons, List.length_nil, List.replicate, List.cons_append, List.nil_append, List.getElem?_cons_zero, List.getElem?_cons_succ, List.set_cons_zero, List.set_cons_succ, Nat.reduceAdd, Nat.reduceSub, Nat.reduceLT, seqS, nxS, setS, dropS, retS, iteS, retV, asg, potS, potDivS, appS, extS, unpS, parS, asgPs, asgP, asgD, asgDs, calm, binE, unE, potE, constE, varE, andE, orE, notE, ifE, tupE, lstE, slE, optE, callE, callF, callKF, methE, isiE, argsE, argsOf, datsOf, resV, newT, newL, shq, shf_true, opF, cF, addV, mulV, ixV, slV, gtK, ltK, leK, geK, subK, addK, mulK, fdivK, modK, powK, intK, absK, isiB, Val.dat, Val.items, flat, flatA, isL, Bool.and_true, Bool.true_and, Bool.false_and, Bool.and_false, if_true, if_false, Bool.false_eq_true, Option.map_some, Option.map_none, Bool.not_true, Bool.not_false, decide_true, decide_false, reduceIte, reduceCtorEq, and_self, true_and, and_true, yesE_ap, sizeLine_eq, Nat.reduceLeDiff, frS, frzL, frz1, frzS, addW, subW, boolInt, revV, tupV, listV, isi2E, setIS, dnewE, get2E, listRgE, tupRgE, rg1R, rg2R, rg3R, eqP_int, eqP_str, neP_int, neP_str, Bool.true_or, Bool.false_or, Bool.or_true, Bool.or_false, Nat.reduceBEq, eqP_nil, l0, lenV, atI0, atI1, shf_true, in2, hz, eqP_int, l2, law_is_whole]
    | a :: b :: r' =>
      have e : stepB cs.length (.tuple (.str z :: a :: b :: r')) = false := by
        match r' with
        | [] => rfl
        | [c] => simp only [stepB, hz, Bool.not_true, Bool.false_and]
        | _ :: _ :: _ => rfl
      have l2 : decide (((r'.length + 1 + 1 + 1 : Nat) : Int) = 2) = false := decide_eq_false (by omega)
      rw [e]
      unfold F_law_is_step B_law_is_step defF
      generalize hk : ((r'.length + 1 + 1 + 1 : Nat) : Int) = k at *
      have l0' : (r'.length + 1 + 1 + 1 == 0) = false := rfl
      simp only [fillSl, List.length_cons, List.length_nil, List.replicate, List.cons_append, List.nil_append, List.getElem?_cons_zero, List.getElem?_cons_succ, List.set_cons_zero, List.set_cons_succ, Nat.reduceAdd, Nat.reduceSub, Nat.reduceLT, seqS, nxS, setS, dropS, retS, iteS, retV, asg, potS, potDivS, appS, extS, unpS, parS, asgPs, asgP, asgD, asgDs, calm, binE, unE, potE, constE, varE, andE, orE, notE, ifE, tupE, lstE, slE, optE, callE, callF, callKF, methE, isiE, argsE, argsOf, datsOf, resV, newT, newL, shq, shf_true, opF, cF, addV, mulV, ixV, slV, gtK, ltK, leK, geK, subK, addK, mulK, fdivK, modK, powK, intK, absK, isiB, Val.dat, Val.items, flat, flatA, isL, Bool.and_true, Bool.true_and, Bool.false_and, Bool.and_false, if_true, if_false, Bool.false_eq_true, Option.map_some, Option.map_none, Bool.not_true, Bool.not_false, decide_true, decide_false, reduceIte, reduceCtorEq, and_self, true_and, and_true, yesE_ap, sizeLine_eq, Nat.reduceLeDiff, frS, frzL, frz1, frzS, addW, subW, boolInt, revV, tupV, listV, isi2E, setIS, dnewE, get2E, listRgE, tupRgE, rg1R, rg2R, rg3R, eqP_int, eqP_str, neP_int, neP_str, Bool.true_or, Bool.false_or, Bool.or_true, Bool.or_false, Nat.reduceBEq, eqP_nil, l0', lenV, atI0, shf_true, in2, hz, eqP_int, hk, l2]
  | false =>
    cases hb : decide (z = "bring") with
    | true =>
      by_cases h4 : r.length = 3
      · match r, h4 with
        | [a, b, c], _ =>
          have c1 := compL_map (t := .nm 2) (fe := callF F_law_is_whole [(varE 2), (constE (.int 0)), (callE lenV [(varE 0)])]) (sl := [.sh (.list cs), .sh (.tuple [.str z, a, b, c]), .un]) (fun d => .bool (wh d 0 cs.length)) [a, b]
            (fun d _ => ⟨_, rfl, fun p => ⟨.sh (.bool (wh d 0 cs.length)), by simp only [fillSl, List.length_cons, List.length_nil, List.replicate, List.cons_append, List.nil_append, List.getElem?_cons_zero, List.getElem?_cons_succ, List.set_cons_zero, List.set_cons_succ, Nat.reduceAdd, Nat.reduceSub, Nat.reduceLT, seqS, nxS, setS, dropS, retS, iteS, retV, asg, potS, potDivS, appS, extS, unpS, parS, asgPs, asgP, asgD, asgDs, calm, binE, unE, potE, constE, varE, andE, orE, notE, ifE, tupE, lstE, slE, optE, callE, callF, callKF, methE, isiE, argsE, argsOf, datsOf, resV, newT, newL, shq, shf_true, opF, cF, addV, mulV, ixV, slV, gtK, ltK, leK, geK, subK, addK, mulK, fdivK, modK, powK, intK, absK, isiB, Val.dat, Val.items, flat, flatA, isL, Bool.and_true, Bool.true_and, Bool.false_and, Bool.and_false, if_true, if_false, Bool.false_eq_true, Option.map_some, Option.map_none, Bool.not_true, Bool.not_false, decide_true, decide_false, reduceIte, reduceCtorEq, and_self, true_and, and_true, yesE_ap, sizeLine_eq, Nat.reduceLeDiff, frS, frzL, frz1, frzS, addW, subW, boolInt, revV, tupV, listV, isi2E, setIS, dnewE, get2E, listRgE, tupRgE, rg1R, rg2R, rg3R, eqP_int, eqP_str, neP_int, neP_str, Bool.true_or, Bool.false_or, Bool.or_true, Bool.or_false, Nat.reduceBEq, lenV, law_is_whole], rfl⟩⟩) p
          have l2 : [a, b].length ≤ 16777216 := (by decide : 2 ≤ 16777216)
          have l4 : ((4 : Nat) : Int) = 4 := rfl
          have e : stepB cs.length (.tuple [.str z, a, b, c]) = ((wh a 0 cs.length && wh b 0 cs.length) && (nextB a b && wh c 0 1000)) := by
            simp only [stepB, hz, hb, Bool.not_false, Bool.true_and]
          rw [e]
          unfold F_law_is_step B_law_is_step defF
          cases hab : wh a 0 cs.length && wh b 0 cs.length with
          | true =>
            obtain ⟨ha, hb2⟩ := (Bool.and_eq_true _ _).mp hab
            obtain ⟨i, rfl, _, _⟩ := wh_int ha
            obtain ⟨j, rfl, _, _⟩ := wh_int hb2
            have en : nextB (.int i) (.int j) = decide (j - i = 1 ∨ j - i = -1) := rfl
            cases hn : decide (j - i = 1 ∨ j - i = -1) with
            | true => simp only [fillSl, List.length_cons, List.length_nil, List.replicate, List.cons_append, List.nil_append, List.getElem?_cons_zero, List.getElem?_cons_succ, List.set_cons_zero, List.set_cons_succ, Nat.reduceAdd, Nat.reduceSub, Nat.reduceLT, seqS, nxS, setS, dropS, retS, iteS, retV, asg, potS, potDivS, appS, extS, unpS, parS, asgPs, asgP, asgD, asgDs, calm, binE, unE, potE, constE, varE, andE, orE, notE, ifE, tupE, lstE, slE, optE, callE, callF, callKF, methE, isiE, argsE, argsOf, datsOf, resV, newT, newL, shq, shf_true, opF, cF, addV, mulV, ixV, slV, gtK, ltK, leK, geK, subK, addK, mulK, fdivK, modK, powK, intK, absK, isiB, Val.dat, Val.items, flat, flatA, isL, Bool.and_true, Bool.true_and, Bool.false_and, Bool.and_false, if_true, if_false, Bool.false_eq_true, Option.map_some, Option.map_none, Bool.not_true, Bool.not_false, decide_true, decide_false, reduceIte, reduceCtorEq, and_self, true_and, and_true, yesE_ap, sizeLine_eq, Nat.reduceLeDiff, frS, frzL, frz1, frzS, addW, subW, boolInt, revV, tupV, listV, isi2E, setIS, dnewE, get2E, listRgE, tupRgE, rg1R, rg2R, rg3R, eqP_int, eqP_str, neP_int, neP_str, Bool.true_or, Bool.false_or, Bool.or_true, Bool.or_false, Nat.reduceBEq, eqP_nil, l0, lenV, atI0, atI1, atI2, atI3, shf_true, in2, hz, hb, neP_int, l4, slE, optE, slV, cut13' (α := PyData), lcE, itJ, wipeSl, c1, List.length_map, l2, all_bools, all2, hab, inI, negV, hn, en, law_is_whole]
            | false => simp only [fillSl, List.length_cons, List.length_nil, List.replicate, List.cons_append, List.nil_append, List.getElem?_cons_zero, List.getElem?_cons_succ, List.set_cons_zero, List.set_cons_succ, Nat.reduceAdd, Nat.reduceSub, Nat.reduceLT, seqS, nxS, setS, dropS, retS, iteS, retV, asg, potS, potDivS, appS, extS, unpS, parS, asgPs, asgP, asgD, asgDs, calm, binE, unE, potE, constE, varE, andE, orE, notE, ifE, tupE, lstE, slE, optE, callE, callF, callKF, methE, isiE, argsE, argsOf, datsOf, resV, newT, newL, shq, shf_true, opF, cF, addV, mulV, ixV, slV, gtK, ltK, leK, geK, subK, addK, mulK, fdivK, modK, powK, intK, absK, isiB, Val.dat, Val.items, flat, flatA, isL, Bool.and_true, Bool.true_and, Bool.false_and, Bool.and_false, if_true, if_false, Bool.false_eq_true, Option.map_some, Option.map_none, Bool.not_true, Bool.not_false, decide_true, decide_false, reduceIte, reduceCtorEq, and_self, true_and, and_true, yesE_ap, sizeLine_eq, Nat.reduceLeDiff, frS, frzL, frz1, frzS, addW, subW, boolInt, revV, tupV, listV, isi2E, setIS, dnewE, get2E, listRgE, tupRgE, rg1R, rg2R, rg3R, eqP_int, eqP_str, neP_int, neP_str, Bool.true_or, Bool.false_or, Bool.or_true, Bool.or_false, Nat.reduceBEq, eqP_nil, l0, lenV, atI0, atI1, atI2, atI3, shf_true, in2, hz, hb, neP_int, l4, slE, optE, slV, cut13' (α := PyData), lcE, itJ, wipeSl, c1, List.length_map, l2, all_bools, all2, hab, inI, negV, hn, en]
          | false => simp only [fillSl, List.length_cons, List.length_nil, List.replicate, List.cons_append, List.nil_append, List.getElem?_cons_zero, List.getElem?_cons_succ, List.set_cons_zero, List.set_cons_succ, Nat.reduceAdd, Nat.reduceSub, Nat.reduceLT, seqS, nxS, setS, dropS, retS, iteS, retV, asg, potS, potDivS, appS, extS, unpS, parS, asgPs, asgP, asgD, asgDs, calm, binE, unE, potE, constE, varE, andE, orE, notE, ifE, tupE, lstE, slE, optE, callE, callF, callKF, methE, isiE, argsE, argsOf, datsOf, resV, newT, newL, shq, shf_true, opF, cF, addV, mulV, ixV, slV, gtK, ltK, leK, geK, subK, addK, mulK, fdivK, modK, powK, intK, absK, isiB, Val.dat, Val.items, flat, flatA, isL, Bool.and_true, Bool.true_and, Bool.false_and, Bool.and_false, if_true, if_false, Bool.false_eq_true, Option.map_some, Option.map_none, Bool.not_true, Bool.not_false, decide_true, decide_false, reduceIte, reduceCtorEq, and_self, true_and, and_true, yesE_ap, sizeLine_eq, Nat.reduceLeDiff, frS, frzL, frz1, frzS, addW, subW, boolInt, revV, tupV, listV, isi2E, setIS, dnewE, get2E, listRgE, tupRgE, rg1R, rg2R, rg3R, eqP_int, eqP_str, neP_int, neP_str, Bool.true_or, Bool.false_or, Bool.or_true, Bool.or_false, Nat.reduceBEq, eqP_nil, l0, lenV, atI0, shf_true, in2, hz, hb, neP_int, l4, slE, optE, slV, cut13' (α := PyData), lcE, itJ, wipeSl, c1, List.length_map, l2, all_bools, all2, hab]
      · have e : stepB cs.length (.tuple (.str z :: r)) = false := by
          match r, h4 with
          | [], _ => rfl
          | [a], _ => simp only [stepB, hz, Bool.false_and]
          | [a, b], _ => rfl
          | [a, b, c], h => exact absurd rfl h
          | _ :: _ :: _ :: _ :: _, _ => rfl
        have l4 := neP_len (r.length + 1) 4 (by omega)
        have l4' : ((4 : Nat) : Int) = 4 := rfl
        rw [e]
        rw [l4'] at l4
        unfold F_law_is_step B_law_is_step defF
        generalize hk : ((r.length + 1 : Nat) : Int) = k at *
        simp only [fillSl, List.length_cons, List.length_nil, List.replicate, List.cons_append, List.nil_append, List.getElem?_cons_zero, List.getElem?_cons_succ, List.set_cons_zero, List.set_cons_succ, Nat.reduceAdd, Nat.reduceSub, Nat.reduceLT, seqS, nxS, setS, dropS, retS, iteS, retV, asg, potS, potDivS, appS, extS, unpS, parS, asgPs, asgP, asgD, asgDs, calm, binE, unE, potE, constE, varE, andE, orE, notE, ifE, tupE, lstE, slE, optE, callE, callF, callKF, methE, isiE, argsE, argsOf, datsOf, resV, newT, newL, shq, shf_true, opF, cF, addV, mulV, ixV, slV, gtK, ltK, leK, geK, subK, addK, mulK, fdivK, modK, powK, intK, absK, isiB, Val.dat, Val.items, flat, flatA, isL, Bool.and_true, Bool.true_and, Bool.false_and, Bool.and_false, if_true, if_false, Bool.false_eq_true, Option.map_some, Option.map_none, Bool.not_true, Bool.not_false, decide_true, decide_false, reduceIte, reduceCtorEq, and_self, true_and, and_true, yesE_ap, sizeLine_eq, Nat.reduceLeDiff, frS, frzL, frz1, frzS, addW, subW, boolInt, revV, tupV, listV, isi2E, setIS, dnewE, get2E, listRgE, tupRgE, rg1R, rg2R, rg3R, eqP_int, eqP_str, neP_int, neP_str, Bool.true_or, Bool.false_or, Bool.or_true, Bool.or_false, Nat.reduceBEq, eqP_nil, l0, lenV, atI0, shf_true, in2, hz, hb, neP_str, hk, l4]
    | false =>
      have e : stepB cs.length (.tuple (.str z :: r)) = false := by
        match r with
        | [] => rfl
        | [a] => simp only [stepB, hz, Bool.false_and]
        | [a, b] => rfl
        | [a, b, c] => simp only [stepB, hb, Bool.and_false, Bool.false_and]
        | _ :: _ :: _ :: _ :: _ => rfl
      rw [e]
      unfold F_law_is_step B_law_is_step defF
      simp only [fillSl, List.length_cons, List.length_nil, List.replicate, List.cons_append, List.nil_append, List.getElem?_cons_zero, List.getElem?_cons_succ, List.set_cons_zero, List.set_cons_succ, Nat.reduceAdd, Nat.reduceSub, Nat.reduceLT, seqS, nxS, setS, dropS, retS, iteS, retV, asg, potS, potDivS, appS, extS, unpS, parS, asgPs, asgP, asgD, asgDs, calm, binE, unE, potE, constE, varE, andE, orE, notE, ifE, tupE, lstE, slE, optE, callE, callF, callKF, methE, isiE, argsE, argsOf, datsOf, resV, newT, newL, shq, shf_true, opF, cF, addV, mulV, ixV, slV, gtK, ltK, leK, geK, subK, addK, mulK, fdivK, modK, powK, intK, absK, isiB, Val.dat, Val.items, flat, flatA, isL, Bool.and_true, Bool.true_and, Bool.false_and, Bool.and_false, if_true, if_false, Bool.false_eq_true, Option.map_some, Option.map_none, Bool.not_true, Bool.not_false, decide_true, decide_false, reduceIte, reduceCtorEq, and_self, true_and, and_true, yesE_ap, sizeLine_eq, Nat.reduceLeDiff, frS, frzL, frz1, frzS, addW, subW, boolInt, revV, tupV, listV, isi2E, setIS, dnewE, get2E, listRgE, tupRgE, rg1R, rg2R, rg3R, eqP_int, eqP_str, neP_int, neP_str, Bool.true_or, Bool.false_or, Bool.or_true, Bool.or_false, Nat.reduceBEq, eqP_nil, l0, lenV, atI0, shf_true, in2, hz, hb, neP_str]
theorem work_of (z : Str) (r : List PyData) : F_is_work [.sh (.list cs), .sh (.tuple (.str z :: r))] p = some (.sh (.bool (stepB cs.length (.tuple (.str z :: r)))), p) := by
  have l0 : ((r.length + 1) == 0) = false := rfl
  have wi : F_is_word_in [.sh (.str z), .sh (.tuple [.str "go", .str "fall", .str "bring"])] p = some (.sh (.bool (isW z || decide (z = "bring"))), p) := by
    unfold F_is_word_in B_is_word_in defF
    simp only [fillSl, List.length_cons, List.length_nil, List.replicate, List.cons_append, List.nil_append, List.getElem?_cons_zero, List.getElem?_cons_succ, List.set_cons_zero, List.set_cons_succ, Nat.reduceAdd, Nat.reduceSub, Nat.reduceLT, seqS, nxS, setS, dropS, retS, iteS, retV, asg, potS, potDivS, appS, extS, unpS, parS, asgPs, asgP, asgD, asgDs, calm, binE, unE, potE, constE, varE, andE, orE, notE, ifE, tupE, lstE, slE, optE, callE, callF, callKF, methE, isiE, argsE, argsOf, datsOf, resV, newT, newL, shq, shf_true, opF, cF, addV, mulV, ixV, slV, gtK, ltK, leK, geK, subK, addK, mulK, fdivK, modK, powK, intK, absK, isiB, Val.dat, Val.items, flat, flatA, isL, Bool.and_true, Bool.true_and, Bool.false_and, Bool.and_false, if_true, if_false, Bool.false_eq_true, Option.map_some, Option.map_none, Bool.not_true, Bool.not_false, decide_true, decide_false, reduceIte, reduceCtorEq, and_self, true_and, and_true, yesE_ap, sizeLine_eq, Nat.reduceLeDiff, frS, frzL, frz1, frzS, addW, subW, boolInt, revV, tupV, listV, isi2E, setIS, dnewE, get2E, listRgE, tupRgE, rg1R, rg2R, rg3R, eqP_int, eqP_str, neP_int, neP_str, Bool.true_or, Bool.false_or, Bool.or_true, Bool.or_false, Nat.reduceBEq, in3]
  cases hz : isW z with
  | true =>
    have hb : decide (z = "bring") = false := decide_eq_false fun h => by rw [h, isW_bring] at hz; cases hz
    match r with
    | [] =>
      have e : stepB cs.length (.tuple [.str z]) = false := rfl
      rw [e]
      unfold F_is_work B_is_work defF
      simp only [fillSl, List.length_cons, List.length_nil, List.replicate, List.cons_append, List.nil_append, List.getElem?_cons_zero, List.getElem?_cons_succ, List.set_cons_zero, List.set_cons_succ, Nat.reduceAdd, Nat.reduceSub, Nat.reduceLT, seqS, nxS, setS, dropS, retS, iteS, retV, asg, potS, potDivS, appS, extS, unpS, parS, asgPs, asgP, asgD, asgDs, calm, binE, unE, potE, constE, varE, andE, orE, notE, ifE, tupE, lstE, slE, optE, callE, callF, callKF, methE, isiE, argsE, argsOf, datsOf, resV, newT, newL, shq, shf_true, opF, cF, addV, mulV, ixV, slV, gtK, ltK, leK, geK, subK, addK, mulK, fdivK, modK, powK, intK, absK, isiB, Val.dat, Val.items, flat, flatA, isL, Bool.and_true, Bool.true_and, Bool.false_and, Bool.and_false, if_true, if_false, Bool.false_eq_true, Option.map_some, Option.map_none, Bool.not_true, Bool.not_false, decide_true, decide_false, reduceIte, reduceCtorEq, and_self, true_and, and_true, yesE_ap, sizeLine_eq, Nat.reduceLeDiff, frS, frzL, frz1, frzS, addW, subW, boolInt, revV, tupV, listV, isi2E, setIS, dnewE, get2E, listRgE, tupRgE, rg1R, rg2R, rg3R, eqP_int, eqP_str, neP_int, neP_str, Bool.true_or, Bool.false_or, Bool.or_true, Bool.or_false, Nat.reduceBEq, eqP_nil, l0, lenV, atI0, shf_true, wi, hz, hb, neP_str, eqP_int]
      rfl
    | [a] =>
      have e : stepB cs.length (.tuple [.str z, a]) = wh a 0 cs.length := by simp only [stepB, hz, Bool.true_and]
      have l2 : decide (((2 : Nat) : Int) = 2) = true := rfl
      rw [e]
      unfold F_is_work B_is_work defF
      simp only [fillSl, List.length_cons, List.length_nil, List.replicate, List.cons_append, List.nil_append, List.getElem?_cons_zero, List.getElem?_cons_succ, List.set_cons_zero, List.set_cons_succ, Nat.reduceAdd, Nat.reduceSub, Nat.reduceLT, seqS, nxS, setS, dropS, retS, iteS, retV, asg, potS, potDivS, appS, extS, unpS, parS, asgPs, asgP, asgD, asgDs, calm, binE, unE, potE, constE, varE, andE, orE, notE, ifE, tupE, lstE, slE, optE, callE, callF, callKF, methE, isiE, argsE, argsOf, datsOf, resV, newT, newL, shq, shf_true, opF, cF, addV, mulV, ixV, slV, gtK, ltK, leK, geK, subK, addK, mulK, fdivK, modK, powK, intK, absK, isiB, Val.dat, Val.items, flat, flatA, isL, Bool.and_true, Bool.true_and, Bool.false_and, Bool.and_false, if_true, if_false, Bool.false_eq_true, Option.map_some, Option.map_none, Bool.not_true, Bool.not_false, decide_true, decide_false, reduceIte, reduceCtorEq, and_self, true_and, and_true, yesE_ap, sizeLine_eq, Nat.reduceLeDiff, frS, frzL, frz1, frzS, addW, subW, boolInt, revV, tupV, listV, isi2E, setIS, dnewE, get2E, listRgE, tupRgE, rg1R, rg2R, rg3R, eqP_int, eqP_str, neP_int, neP_str, Bool.true_or, Bool.false_or, Bool.or_true, Bool.or_false, Nat.reduceBEq, eqP_nil, l0, lenV, atI0, atI1, shf_true, wi, hz, hb, neP_str, eqP_int, l2, is_within]
    | a :: b :: r' =>
      have e : stepB cs.length (.tuple (.str z :: a :: b :: r')) = false := by
        match r' with
        | [] => rfl
        | [c] => simp only [stepB, hz, Bool.not_true, Bool.false_and]
        | _ :: _ :: _ => rfl
      have l2 : decide (((r'.length + 1 + 1 + 1 : Nat) : Int) = 2) = false := decide_eq_false (by omega)
      rw [e]
      unfold F_is_work B_is_work defF
      generalize hk : ((r'.length + 1 + 1 + 1 : Nat) : Int) = k at *
      have l0' : (r'.length + 1 + 1 + 1 == 0) = false := rfl
      simp only [fillSl, List.length_cons, List.length_nil, List.replicate, List.cons_append, List.nil_append, List.getElem?_cons_zero, List.getElem?_cons_succ, List.set_cons_zero, List.set_cons_succ, Nat.reduceAdd, Nat.reduceSub, Nat.reduceLT, seqS, nxS, setS, dropS, retS, iteS, retV, asg, potS, potDivS, appS, extS, unpS, parS, asgPs, asgP, asgD, asgDs, calm, binE, unE, potE, constE, varE, andE, orE, notE, ifE, tupE, lstE, slE, optE, callE, callF, callKF, methE, isiE, argsE, argsOf, datsOf, resV, newT, newL, shq, shf_true, opF, cF, addV, mulV, ixV, slV, gtK, ltK, leK, geK, subK, addK, mulK, fdivK, modK, powK, intK, absK, isiB, Val.dat, Val.items, flat, flatA, isL, Bool.and_true, Bool.true_and, Bool.false_and, Bool.and_false, if_true, if_false, Bool.false_eq_true, Option.map_some, Option.map_none, Bool.not_true, Bool.not_false, decide_true, decide_false, reduceIte, reduceCtorEq, and_self, true_and, and_true, yesE_ap, sizeLine_eq, Nat.reduceLeDiff, frS, frzL, frz1, frzS, addW, subW, boolInt, revV, tupV, listV, isi2E, setIS, dnewE, get2E, listRgE, tupRgE, rg1R, rg2R, rg3R, eqP_int, eqP_str, neP_int, neP_str, Bool.true_or, Bool.false_or, Bool.or_true, Bool.or_false, Nat.reduceBEq, eqP_nil, l0', lenV, atI0, shf_true, wi, hz, hb, neP_str, eqP_int, hk, l2]
  | false =>
    cases hb : decide (z = "bring") with
    | true =>
      by_cases h4 : r.length = 3
      · match r, h4 with
        | [a, b, c], _ =>
          have c1 := compL_map (t := .nm 2) (fe := callF F_is_within [(varE 2), (constE (.int 0)), (callE lenV [(varE 0)])]) (sl := [.sh (.list cs), .sh (.tuple [.str z, a, b, c]), .un]) (fun d => .bool (wh d 0 cs.length)) [a, b]
            (fun d _ => ⟨_, rfl, fun p => ⟨.sh (.bool (wh d 0 cs.length)), by simp only [fillSl, List.length_cons, List.length_nil, List.replicate, List.cons_append, List.nil_append, List.getElem?_cons_zero, List.getElem?_cons_succ, List.set_cons_zero, List.set_cons_succ, Nat.reduceAdd, Nat.reduceSub, Nat.reduceLT, seqS, nxS, setS, dropS, retS, iteS, retV, asg, potS, potDivS, appS, extS, unpS, parS, asgPs, asgP, asgD, asgDs, calm, binE, unE, potE, constE, varE, andE, orE, notE, ifE, tupE, lstE, slE, optE, callE, callF, callKF, methE, isiE, argsE, argsOf, datsOf, resV, newT, newL, shq, shf_true, opF, cF, addV, mulV, ixV, slV, gtK, ltK, leK, geK, subK, addK, mulK, fdivK, modK, powK, intK, absK, isiB, Val.dat, Val.items, flat, flatA, isL, Bool.and_true, Bool.true_and, Bool.false_and, Bool.and_false, if_true, if_false, Bool.false_eq_true, Option.map_some, Option.map_none, Bool.not_true, Bool.not_false, decide_true, decide_false, reduceIte, reduceCtorEq, and_self, true_and, and_true, yesE_ap, sizeLine_eq, Nat.reduceLeDiff, frS, frzL, frz1, frzS, addW, subW, boolInt, revV, tupV, listV, isi2E, setIS, dnewE, get2E, listRgE, tupRgE, rg1R, rg2R, rg3R, eqP_int, eqP_str, neP_int, neP_str, Bool.true_or, Bool.false_or, Bool.or_true, Bool.or_false, Nat.reduceBEq, lenV, is_within], rfl⟩⟩) p
          have l2 : [a, b].length ≤ 16777216 := (by decide : 2 ≤ 16777216)
          have l4 : ((4 : Nat) : Int) = 4 := rfl
          have l04 : ((4 : Nat) == 0) = false := rfl
          have e : stepB cs.length (.tuple [.str z, a, b, c]) = ((wh a 0 cs.length && wh b 0 cs.length) && (nextB a b && wh c 0 1000)) := by
            simp only [stepB, hz, hb, Bool.not_false, Bool.true_and]
          rw [e]
          unfold F_is_work B_is_work defF
          cases hab : wh a 0 cs.length && wh b 0 cs.length with
          | true =>
            obtain ⟨ha, hb2⟩ := (Bool.and_eq_true _ _).mp hab
            obtain ⟨i, rfl, _, _⟩ := wh_int ha
            obtain ⟨j, rfl, _, _⟩ := wh_int hb2
            have en : nextB (.int i) (.int j) = decide ((if i - j < 0 then -(i - j) else i - j) = 1) := by
              unfold nextB
              rw [Bool.eq_iff_iff, decide_eq_true_eq, decide_eq_true_eq]
              split <;> omega
            cases hn : decide ((if i - j < 0 then -(i - j) else i - j) = 1) with
            | true => simp only [fillSl, List.length_cons, List.length_nil, List.replicate, List.cons_append, List.nil_append, List.getElem?_cons_zero, List.getElem?_cons_succ, List.set_cons_zero, List.set_cons_succ, Nat.reduceAdd, Nat.reduceSub, Nat.reduceLT, seqS, nxS, setS, dropS, retS, iteS, retV, asg, potS, potDivS, appS, extS, unpS, parS, asgPs, asgP, asgD, asgDs, calm, binE, unE, potE, constE, varE, andE, orE, notE, ifE, tupE, lstE, slE, optE, callE, callF, callKF, methE, isiE, argsE, argsOf, datsOf, resV, newT, newL, shq, shf_true, opF, cF, addV, mulV, ixV, slV, gtK, ltK, leK, geK, subK, addK, mulK, fdivK, modK, powK, intK, absK, isiB, Val.dat, Val.items, flat, flatA, isL, Bool.and_true, Bool.true_and, Bool.false_and, Bool.and_false, if_true, if_false, Bool.false_eq_true, Option.map_some, Option.map_none, Bool.not_true, Bool.not_false, decide_true, decide_false, reduceIte, reduceCtorEq, and_self, true_and, and_true, yesE_ap, sizeLine_eq, Nat.reduceLeDiff, frS, frzL, frz1, frzS, addW, subW, boolInt, revV, tupV, listV, isi2E, setIS, dnewE, get2E, listRgE, tupRgE, rg1R, rg2R, rg3R, eqP_int, eqP_str, neP_int, neP_str, Bool.true_or, Bool.false_or, Bool.or_true, Bool.or_false, Nat.reduceBEq, eqP_nil, l04, lenV, atI0, atI1, atI2, atI3, shf_true, wi, hz, hb, neP_str, neP_int, l4, slE, optE, slV, cut13' (α := PyData), lcE, itJ, wipeSl, c1, List.length_map, l2, all_bools, all2, hab, eqP_int, hn, en, is_within, Bool.not_false, Bool.true_and, Bool.or_true, Bool.or_false, Bool.or_self, Bool.false_or]
            | false => simp only [fillSl, List.length_cons, List.length_nil, List.replicate, List.cons_append, List.nil_append, List.getElem?_cons_zero, List.getElem?_cons_succ, List.set_cons_zero, List.set_cons_succ, Nat.reduceAdd, Nat.reduceSub, Nat.reduceLT, seqS, nxS, setS, dropS, retS, iteS, retV, asg, potS, potDivS, appS, extS, unpS, parS, asgPs, asgP, asgD, asgDs, calm, binE, unE, potE, constE, varE, andE, orE, notE, ifE, tupE, lstE, slE, optE, callE, callF, callKF, methE, isiE, argsE, argsOf, datsOf, resV, newT, newL, shq, shf_true, opF, cF, addV, mulV, ixV, slV, gtK, ltK, leK, geK, subK, addK, mulK, fdivK, modK, powK, intK, absK, isiB, Val.dat, Val.items, flat, flatA, isL, Bool.and_true, Bool.true_and, Bool.false_and, Bool.and_false, if_true, if_false, Bool.false_eq_true, Option.map_some, Option.map_none, Bool.not_true, Bool.not_false, decide_true, decide_false, reduceIte, reduceCtorEq, and_self, true_and, and_true, yesE_ap, sizeLine_eq, Nat.reduceLeDiff, frS, frzL, frz1, frzS, addW, subW, boolInt, revV, tupV, listV, isi2E, setIS, dnewE, get2E, listRgE, tupRgE, rg1R, rg2R, rg3R, eqP_int, eqP_str, neP_int, neP_str, Bool.true_or, Bool.false_or, Bool.or_true, Bool.or_false, Nat.reduceBEq, eqP_nil, l04, lenV, atI0, atI1, atI2, atI3, shf_true, wi, hz, hb, neP_str, neP_int, l4, slE, optE, slV, cut13' (α := PyData), lcE, itJ, wipeSl, c1, List.length_map, l2, all_bools, all2, hab, eqP_int, hn, en, Bool.or_true]
          | false => simp only [fillSl, List.length_cons, List.length_nil, List.replicate, List.cons_append, List.nil_append, List.getElem?_cons_zero, List.getElem?_cons_succ, List.set_cons_zero, List.set_cons_succ, Nat.reduceAdd, Nat.reduceSub, Nat.reduceLT, seqS, nxS, setS, dropS, retS, iteS, retV, asg, potS, potDivS, appS, extS, unpS, parS, asgPs, asgP, asgD, asgDs, calm, binE, unE, potE, constE, varE, andE, orE, notE, ifE, tupE, lstE, slE, optE, callE, callF, callKF, methE, isiE, argsE, argsOf, datsOf, resV, newT, newL, shq, shf_true, opF, cF, addV, mulV, ixV, slV, gtK, ltK, leK, geK, subK, addK, mulK, fdivK, modK, powK, intK, absK, isiB, Val.dat, Val.items, flat, flatA, isL, Bool.and_true, Bool.true_and, Bool.false_and, Bool.and_false, if_true, if_false, Bool.false_eq_true, Option.map_some, Option.map_none, Bool.not_true, Bool.not_false, decide_true, decide_false, reduceIte, reduceCtorEq, and_self, true_and, and_true, yesE_ap, sizeLine_eq, Nat.reduceLeDiff, frS, frzL, frz1, frzS, addW, subW, boolInt, revV, tupV, listV, isi2E, setIS, dnewE, get2E, listRgE, tupRgE, rg1R, rg2R, rg3R, eqP_int, eqP_str, neP_int, neP_str, Bool.true_or, Bool.false_or, Bool.or_true, Bool.or_false, Nat.reduceBEq, eqP_nil, l04, lenV, atI0, shf_true, wi, hz, hb, neP_str, neP_int, l4, slE, optE, slV, cut13' (α := PyData), lcE, itJ, wipeSl, c1, List.length_map, l2, all_bools, all2, hab, Bool.or_true]
      · have e : stepB cs.length (.tuple (.str z :: r)) = false := by
          match r, h4 with
          | [], _ => rfl
          | [a], _ => simp only [stepB, hz, Bool.false_and]
          | [a, b], _ => rfl
          | [a, b, c], h => exact absurd rfl h
          | _ :: _ :: _ :: _ :: _, _ => rfl
        have l4 := neP_len (r.length + 1) 4 (by omega)
        have l4' : ((4 : Nat) : Int) = 4 := rfl
        rw [e]
        rw [l4'] at l4
        unfold F_is_work B_is_work defF
        generalize hk : ((r.length + 1 : Nat) : Int) = k at *
        simp only [fillSl, List.length_cons, List.length_nil, List.replicate, List.cons_append, List.nil_append, List.getElem?_cons_zero, List.getElem?_cons_succ, List.set_cons_zero, List.set_cons_succ, Nat.reduceAdd, Nat.reduceSub, Nat.reduceLT, seqS, nxS, setS, dropS, retS, iteS, retV, asg, potS, potDivS, appS, extS, unpS, parS, asgPs, asgP, asgD, asgDs, calm, binE, unE, potE, constE, varE, andE, orE, notE, ifE, tupE, lstE, slE, optE, callE, callF, callKF, methE, isiE, argsE, argsOf, datsOf, resV, newT, newL, shq, shf_true, opF, cF, addV, mulV, ixV, slV, gtK, ltK, leK, geK, subK, addK, mulK, fdivK, modK, powK, intK, absK, isiB, Val.dat, Val.items, flat, flatA, isL, Bool.and_true, Bool.true_and, Bool.false_and, Bool.and_false, if_true, if_false, Bool.false_eq_true, Option.map_some, Option.map_none, Bool.not_true, Bool.not_false, decide_true, decide_false, reduceIte, reduceCtorEq, and_self, true_and, and_true, yesE_ap, sizeLine_eq, Nat.reduceLeDiff, frS, frzL, frz1, frzS, addW, subW, boolInt, revV, tupV, listV, isi2E, setIS, dnewE, get2E, listRgE, tupRgE, rg1R, rg2R, rg3R, eqP_int, eqP_str, neP_int, neP_str, Bool.true_or, Bool.false_or, Bool.or_true, Bool.or_false, Nat.reduceBEq, eqP_nil, l0, lenV, atI0, shf_true, wi, hz, hb, neP_str, hk, l4]
    | false =>
      have e : stepB cs.length (.tuple (.str z :: r)) = false := by
        match r with
        | [] => rfl
        | [a] => simp only [stepB, hz, Bool.false_and]
        | [a, b] => rfl
        | [a, b, c] => simp only [stepB, hb, Bool.and_false, Bool.false_and]
        | _ :: _ :: _ :: _ :: _ => rfl
      rw [e]
      unfold F_is_work B_is_work defF
      simp only [fillSl, List.length_cons, List.length_nil, List.replicate, List.cons_append, List.nil_append, List.getElem?_cons_zero, List.getElem?_cons_succ, List.set_cons_zero, List.set_cons_succ, Nat.reduceAdd, Nat.reduceSub, Nat.reduceLT, seqS, nxS, setS, dropS, retS, iteS, retV, asg, potS, potDivS, appS, extS, unpS, parS, asgPs, asgP, asgD, asgDs, calm, binE, unE, potE, constE, varE, andE, orE, notE, ifE, tupE, lstE, slE, optE, callE, callF, callKF, methE, isiE, argsE, argsOf, datsOf, resV, newT, newL, shq, shf_true, opF, cF, addV, mulV, ixV, slV, gtK, ltK, leK, geK, subK, addK, mulK, fdivK, modK, powK, intK, absK, isiB, Val.dat, Val.items, flat, flatA, isL, Bool.and_true, Bool.true_and, Bool.false_and, Bool.and_false, if_true, if_false, Bool.false_eq_true, Option.map_some, Option.map_none, Bool.not_true, Bool.not_false, decide_true, decide_false, reduceIte, reduceCtorEq, and_self, true_and, and_true, yesE_ap, sizeLine_eq, Nat.reduceLeDiff, frS, frzL, frz1, frzS, addW, subW, boolInt, revV, tupV, listV, isi2E, setIS, dnewE, get2E, listRgE, tupRgE, rg1R, rg2R, rg3R, eqP_int, eqP_str, neP_int, neP_str, Bool.true_or, Bool.false_or, Bool.or_true, Bool.or_false, Nat.reduceBEq, eqP_nil, l0, lenV, atI0, shf_true, wi, hz, hb, neP_str]
end
end K94

namespace K94
open PySem PySem.Spec PyProof.Rows L2 Pu
def noStr : PyData → Bool
  | .str _ => false
  | _ => true
section
variable (cs : List PyData) (p : Pot)
theorem law_step (d : PyData) : F_law_is_step [.sh (.list cs), .sh d] p = some (.sh (.bool (stepB cs.length d)), p) := by
  cases d with
  | tuple ds =>
    cases ds with
    | nil =>
      have e : stepB cs.length (.tuple []) = false := rfl
      rw [e]
      unfold F_law_is_step B_law_is_step defF
      simp only [fillSl, List.length_cons, List.length_nil, List.replicate, List.cons_append, List.nil_append, List.getElem?_cons_zero, List.getElem?_cons_succ, List.set_cons_zero, List.set_cons_succ, Nat.reduceAdd, Nat.reduceSub, Nat.reduceLT, seqS, nxS, setS, dropS, retS, iteS, retV, asg, potS, potDivS, appS, extS, unpS, parS, asgPs, asgP, asgD, asgDs, calm, binE, unE, potE, constE, varE, andE, orE, notE, ifE, tupE, lstE, slE, optE, callE, callF, callKF, methE, isiE, argsE, argsOf, datsOf, resV, newT, newL, shq, shf_true, opF, cF, addV, mulV, ixV, slV, gtK, ltK, leK, geK, subK, addK, mulK, fdivK, modK, powK, intK, absK, isiB, Val.dat, Val.items, flat, flatA, isL, Bool.and_true, Bool.true_and, Bool.false_and, Bool.and_false, if_true, if_false, Bool.false_eq_true, Option.map_some, Option.map_none, Bool.not_true, Bool.not_false, decide_true, decide_false, reduceIte, reduceCtorEq, and_self, true_and, and_true, yesE_ap, sizeLine_eq, Nat.reduceLeDiff, frS, frzL, frz1, frzS, addW, subW, boolInt, revV, tupV, listV, isi2E, setIS, dnewE, get2E, listRgE, tupRgE, rg1R, rg2R, rg3R, eqP_int, eqP_str, neP_int, neP_str, Bool.true_or, Bool.false_or, Bool.or_true, Bool.or_false, Nat.reduceBEq, eqP_nil]
    | cons a r =>
      have l0 : ((r.length + 1) == 0) = false := rfl
      cases a with
      | str z => exact law_step_of cs p z r
      | _ =>
        have e : ∀ x : PyData, noStr x = true → stepB cs.length (.tuple (x :: r)) = false := fun x hx => by
          unfold stepB
          split
          · rename_i z a e; cases e; cases hx
          · rename_i z a b c e; cases e; cases hx
          · rfl
        rw [e _ rfl]
        unfold F_law_is_step B_law_is_step defF
        simp only [fillSl, List.length_cons, List.length_nil, List.replicate, List.cons_append, List.nil_append, List.getElem?_cons_zero, List.getElem?_cons_succ, List.set_cons_zero, List.set_cons_succ, Nat.reduceAdd, Nat.reduceSub, Nat.reduceLT, seqS, nxS, setS, dropS, retS, iteS, retV, asg, potS, potDivS, appS, extS, unpS, parS, asgPs, asgP, asgD, asgDs, calm, binE, unE, potE, constE, varE, andE, orE, notE, ifE, tupE, lstE, slE, optE, callE, callF, callKF, methE, isiE, argsE, argsOf, datsOf, resV, newT, newL, shq, shf_true, opF, cF, addV, mulV, ixV, slV, gtK, ltK, leK, geK, subK, addK, mulK, fdivK, modK, powK, intK, absK, isiB, Val.dat, Val.items, flat, flatA, isL, Bool.and_true, Bool.true_and, Bool.false_and, Bool.and_false, if_true, if_false, Bool.false_eq_true, Option.map_some, Option.map_none, Bool.not_true, Bool.not_false, decide_true, decide_false, reduceIte, reduceCtorEq, and_self, true_and, and_true, yesE_ap, sizeLine_eq, Nat.reduceLeDiff, frS, frzL, frz1, frzS, addW, subW, boolInt, revV, tupV, listV, isi2E, setIS, dnewE, get2E, listRgE, tupRgE, rg1R, rg2R, rg3R, eqP_int, eqP_str, neP_int, neP_str, Bool.true_or, Bool.false_or, Bool.or_true, Bool.or_false, Nat.reduceBEq, eqP_nil, l0, atI0]
  | _ =>
    unfold F_law_is_step B_law_is_step defF
    simp only [fillSl, List.length_cons, List.length_nil, List.replicate, List.cons_append, List.nil_append, List.getElem?_cons_zero, List.getElem?_cons_succ, List.set_cons_zero, List.set_cons_succ, Nat.reduceAdd, Nat.reduceSub, Nat.reduceLT, seqS, nxS, setS, dropS, retS, iteS, retV, asg, potS, potDivS, appS, extS, unpS, parS, asgPs, asgP, asgD, asgDs, calm, binE, unE, potE, constE, varE, andE, orE, notE, ifE, tupE, lstE, slE, optE, callE, callF, callKF, methE, isiE, argsE, argsOf, datsOf, resV, newT, newL, shq, shf_true, opF, cF, addV, mulV, ixV, slV, gtK, ltK, leK, geK, subK, addK, mulK, fdivK, modK, powK, intK, absK, isiB, Val.dat, Val.items, flat, flatA, isL, Bool.and_true, Bool.true_and, Bool.false_and, Bool.and_false, if_true, if_false, Bool.false_eq_true, Option.map_some, Option.map_none, Bool.not_true, Bool.not_false, decide_true, decide_false, reduceIte, reduceCtorEq, and_self, true_and, and_true, yesE_ap, sizeLine_eq, Nat.reduceLeDiff, frS, frzL, frz1, frzS, addW, subW, boolInt, revV, tupV, listV, isi2E, setIS, dnewE, get2E, listRgE, tupRgE, rg1R, rg2R, rg3R, eqP_int, eqP_str, neP_int, neP_str, Bool.true_or, Bool.false_or, Bool.or_true, Bool.or_false, Nat.reduceBEq, stepB]
theorem work (d : PyData) : F_is_work [.sh (.list cs), .sh d] p = some (.sh (.bool (stepB cs.length d)), p) := by
  cases d with
  | tuple ds =>
    cases ds with
    | nil =>
      have e : stepB cs.length (.tuple []) = false := rfl
      rw [e]
      unfold F_is_work B_is_work defF
      simp only [fillSl, List.length_cons, List.length_nil, List.replicate, List.cons_append, List.nil_append, List.getElem?_cons_zero, List.getElem?_cons_succ, List.set_cons_zero, List.set_cons_succ, Nat.reduceAdd, Nat.reduceSub, Nat.reduceLT, seqS, nxS, setS, dropS, retS, iteS, retV, asg, potS, potDivS, appS, extS, unpS, parS, asgPs, asgP, asgD, asgDs, calm, binE, unE, potE, constE, varE, andE, orE, notE, ifE, tupE, lstE, slE, optE, callE, callF, callKF, methE, isiE, argsE, argsOf, datsOf, resV, newT, newL, shq, shf_true, opF, cF, addV, mulV, ixV, slV, gtK, ltK, leK, geK, subK, addK, mulK, fdivK, modK, powK, intK, absK, isiB, Val.dat, Val.items, flat, flatA, isL, Bool.and_true, Bool.true_and, Bool.false_and, Bool.and_false, if_true, if_false, Bool.false_eq_true, Option.map_some, Option.map_none, Bool.not_true, Bool.not_false, decide_true, decide_false, reduceIte, reduceCtorEq, and_self, true_and, and_true, yesE_ap, sizeLine_eq, Nat.reduceLeDiff, frS, frzL, frz1, frzS, addW, subW, boolInt, revV, tupV, listV, isi2E, setIS, dnewE, get2E, listRgE, tupRgE, rg1R, rg2R, rg3R, eqP_int, eqP_str, neP_int, neP_str, Bool.true_or, Bool.false_or, Bool.or_true, Bool.or_false, Nat.reduceBEq, eqP_nil]
    | cons a r =>
      have l0 : ((r.length + 1) == 0) = false := rfl
      cases a with
      | str z => exact work_of cs p z r
      | _ =>
        have e : ∀ x : PyData, noStr x = true → stepB cs.length (.tuple (x :: r)) = false := fun x hx => by
          unfold stepB
          split
          · rename_i z a e; cases e; cases hx
          · rename_i z a b c e; cases e; cases hx
          · rfl
        rw [e _ rfl]
        unfold F_is_work B_is_work defF
        simp only [fillSl, List.length_cons, List.length_nil, List.replicate, List.cons_append, List.nil_append, List.getElem?_cons_zero, List.getElem?_cons_succ, List.set_cons_zero, List.set_cons_succ, Nat.reduceAdd, Nat.reduceSub, Nat.reduceLT, seqS, nxS, setS, dropS, retS, iteS, retV, asg, potS, potDivS, appS, extS, unpS, parS, asgPs, asgP, asgD, asgDs, calm, binE, unE, potE, constE, varE, andE, orE, notE, ifE, tupE, lstE, slE, optE, callE, callF, callKF, methE, isiE, argsE, argsOf, datsOf, resV, newT, newL, shq, shf_true, opF, cF, addV, mulV, ixV, slV, gtK, ltK, leK, geK, subK, addK, mulK, fdivK, modK, powK, intK, absK, isiB, Val.dat, Val.items, flat, flatA, isL, Bool.and_true, Bool.true_and, Bool.false_and, Bool.and_false, if_true, if_false, Bool.false_eq_true, Option.map_some, Option.map_none, Bool.not_true, Bool.not_false, decide_true, decide_false, reduceIte, reduceCtorEq, and_self, true_and, and_true, yesE_ap, sizeLine_eq, Nat.reduceLeDiff, frS, frzL, frz1, frzS, addW, subW, boolInt, revV, tupV, listV, isi2E, setIS, dnewE, get2E, listRgE, tupRgE, rg1R, rg2R, rg3R, eqP_int, eqP_str, neP_int, neP_str, Bool.true_or, Bool.false_or, Bool.or_true, Bool.or_false, Nat.reduceBEq, eqP_nil, l0, atI0, F_is_word_in, B_is_word_in, defF]
  | _ =>
    unfold F_is_work B_is_work defF
    simp only [fillSl, List.length_cons, List.length_nil, List.replicate, List.cons_append, List.nil_append, List.getElem?_cons_zero, List.getElem?_cons_succ, List.set_cons_zero, List.set_cons_succ, Nat.reduceAdd, Nat.reduceSub, Nat.reduceLT, seqS, nxS, setS, dropS, retS, iteS, retV, asg, potS, potDivS, appS, extS, unpS, parS, asgPs, asgP, asgD, asgDs, calm, binE, unE, potE, constE, varE, andE, orE, notE, ifE, tupE, lstE, slE, optE, callE, callF, callKF, methE, isiE, argsE, argsOf, datsOf, resV, newT, newL, shq, shf_true, opF, cF, addV, mulV, ixV, slV, gtK, ltK, leK, geK, subK, addK, mulK, fdivK, modK, powK, intK, absK, isiB, Val.dat, Val.items, flat, flatA, isL, Bool.and_true, Bool.true_and, Bool.false_and, Bool.and_false, if_true, if_false, Bool.false_eq_true, Option.map_some, Option.map_none, Bool.not_true, Bool.not_false, decide_true, decide_false, reduceIte, reduceCtorEq, and_self, true_and, and_true, yesE_ap, sizeLine_eq, Nat.reduceLeDiff, frS, frzL, frz1, frzS, addW, subW, boolInt, revV, tupV, listV, isi2E, setIS, dnewE, get2E, listRgE, tupRgE, rg1R, rg2R, rg3R, eqP_int, eqP_str, neP_int, neP_str, Bool.true_or, Bool.false_or, Bool.or_true, Bool.or_false, Nat.reduceBEq, stepB]
def schedL (n : Nat) (ds : List PyData) : Bool := decide (ds.length ≤ 2000) && ds.all (stepB n)
def schedB (n : Nat) (d : PyData) : Bool := match d with
  | .list ds => schedL n ds
  | .tuple ds => schedL n ds
  | _ => false
theorem nat2000 (n : Nat) : ((n : Int) ≤ 2000) = (n ≤ 2000) := propext ⟨fun h => by omega, fun h => by omega⟩
theorem law_sched_seq {d : PyData} {ds : List PyData} (hd : d = .list ds ∨ d = .tuple ds) (hl : ds.length ≤ 16777216) : F_law_is_schedule [.sh (.list cs), .sh d] p = some (.sh (.bool (schedL cs.length ds)), p) := by
  have c1 := fun (x : PyData) => compL_map (t := .nm 2) (fe := callF F_law_is_step [(varE 0), (varE 2)]) (sl := [.sh (.list cs), .sh x, .un]) (fun d => .bool (stepB cs.length d)) ds
    (fun d _ => ⟨_, rfl, fun p => ⟨.sh (.bool (stepB cs.length d)), by simp only [fillSl, List.length_cons, List.length_nil, List.replicate, List.cons_append, List.nil_append, List.getElem?_cons_zero, List.getElem?_cons_succ, List.set_cons_zero, List.set_cons_succ, Nat.reduceAdd, Nat.reduceSub, Nat.reduceLT, seqS, nxS, setS, dropS, retS, iteS, retV, asg, potS, potDivS, appS, extS, unpS, parS, asgPs, asgP, asgD, asgDs, calm, binE, unE, potE, constE, varE, andE, orE, notE, ifE, tupE, lstE, slE, optE, callE, callF, callKF, methE, isiE, argsE, argsOf, datsOf, resV, newT, newL, shq, shf_true, opF, cF, addV, mulV, ixV, slV, gtK, ltK, leK, geK, subK, addK, mulK, fdivK, modK, powK, intK, absK, isiB, Val.dat, Val.items, flat, flatA, isL, Bool.and_true, Bool.true_and, Bool.false_and, Bool.and_false, if_true, if_false, Bool.false_eq_true, Option.map_some, Option.map_none, Bool.not_true, Bool.not_false, decide_true, decide_false, reduceIte, reduceCtorEq, and_self, true_and, and_true, yesE_ap, sizeLine_eq, Nat.reduceLeDiff, frS, frzL, frz1, frzS, addW, subW, boolInt, revV, tupV, listV, isi2E, setIS, dnewE, get2E, listRgE, tupRgE, rg1R, rg2R, rg3R, eqP_int, eqP_str, neP_int, neP_str, Bool.true_or, Bool.false_or, Bool.or_true, Bool.or_false, Nat.reduceBEq, law_step], rfl⟩⟩) p
  unfold F_law_is_schedule B_law_is_schedule defF schedL
  have ab := all_bools (stepB cs.length) ds
  by_cases h2 : ds.length ≤ 2000
  · rcases hd with rfl | rfl <;> simp only [fillSl, List.length_cons, List.length_nil, List.replicate, List.cons_append, List.nil_append, List.getElem?_cons_zero, List.getElem?_cons_succ, List.set_cons_zero, List.set_cons_succ, Nat.reduceAdd, Nat.reduceSub, Nat.reduceLT, seqS, nxS, setS, dropS, retS, iteS, retV, asg, potS, potDivS, appS, extS, unpS, parS, asgPs, asgP, asgD, asgDs, calm, binE, unE, potE, constE, varE, andE, orE, notE, ifE, tupE, lstE, slE, optE, callE, callF, callKF, methE, isiE, argsE, argsOf, datsOf, resV, newT, newL, shq, shf_true, opF, cF, addV, mulV, ixV, slV, gtK, ltK, leK, geK, subK, addK, mulK, fdivK, modK, powK, intK, absK, isiB, Val.dat, Val.items, flat, flatA, isL, Bool.and_true, Bool.true_and, Bool.false_and, Bool.and_false, if_true, if_false, Bool.false_eq_true, Option.map_some, Option.map_none, Bool.not_true, Bool.not_false, decide_true, decide_false, reduceIte, reduceCtorEq, and_self, true_and, and_true, yesE_ap, sizeLine_eq, Nat.reduceLeDiff, frS, frzL, frz1, frzS, addW, subW, boolInt, revV, tupV, listV, isi2E, setIS, dnewE, get2E, listRgE, tupRgE, rg1R, rg2R, rg3R, eqP_int, eqP_str, neP_int, neP_str, Bool.true_or, Bool.false_or, Bool.or_true, Bool.or_false, Nat.reduceBEq, lenV, lcE, itJ, wipeSl, c1, List.length_map, hl, all_bools, h2, nat2000]
  · rcases hd with rfl | rfl <;> simp only [fillSl, List.length_cons, List.length_nil, List.replicate, List.cons_append, List.nil_append, List.getElem?_cons_zero, List.getElem?_cons_succ, List.set_cons_zero, List.set_cons_succ, Nat.reduceAdd, Nat.reduceSub, Nat.reduceLT, seqS, nxS, setS, dropS, retS, iteS, retV, asg, potS, potDivS, appS, extS, unpS, parS, asgPs, asgP, asgD, asgDs, calm, binE, unE, potE, constE, varE, andE, orE, notE, ifE, tupE, lstE, slE, optE, callE, callF, callKF, methE, isiE, argsE, argsOf, datsOf, resV, newT, newL, shq, shf_true, opF, cF, addV, mulV, ixV, slV, gtK, ltK, leK, geK, subK, addK, mulK, fdivK, modK, powK, intK, absK, isiB, Val.dat, Val.items, flat, flatA, isL, Bool.and_true, Bool.true_and, Bool.false_and, Bool.and_false, if_true, if_false, Bool.false_eq_true, Option.map_some, Option.map_none, Bool.not_true, Bool.not_false, decide_true, decide_false, reduceIte, reduceCtorEq, and_self, true_and, and_true, yesE_ap, sizeLine_eq, Nat.reduceLeDiff, frS, frzL, frz1, frzS, addW, subW, boolInt, revV, tupV, listV, isi2E, setIS, dnewE, get2E, listRgE, tupRgE, rg1R, rg2R, rg3R, eqP_int, eqP_str, neP_int, neP_str, Bool.true_or, Bool.false_or, Bool.or_true, Bool.or_false, Nat.reduceBEq, lenV, h2, nat2000]
theorem law_sched (d : PyData) (hl : ∀ ds, d = .list ds ∨ d = .tuple ds → ds.length ≤ 16777216) : F_law_is_schedule [.sh (.list cs), .sh d] p = some (.sh (.bool (schedB cs.length d)), p) := by
  cases d with
  | list ds => exact law_sched_seq cs p (.inl rfl) (hl ds (.inl rfl))
  | tuple ds => exact law_sched_seq cs p (.inr rfl) (hl ds (.inr rfl))
  | _ =>
    unfold F_law_is_schedule B_law_is_schedule defF
    simp only [fillSl, List.length_cons, List.length_nil, List.replicate, List.cons_append, List.nil_append, List.getElem?_cons_zero, List.getElem?_cons_succ, List.set_cons_zero, List.set_cons_succ, Nat.reduceAdd, Nat.reduceSub, Nat.reduceLT, seqS, nxS, setS, dropS, retS, iteS, retV, asg, potS, potDivS, appS, extS, unpS, parS, asgPs, asgP, asgD, asgDs, calm, binE, unE, potE, constE, varE, andE, orE, notE, ifE, tupE, lstE, slE, optE, callE, callF, callKF, methE, isiE, argsE, argsOf, datsOf, resV, newT, newL, shq, shf_true, opF, cF, addV, mulV, ixV, slV, gtK, ltK, leK, geK, subK, addK, mulK, fdivK, modK, powK, intK, absK, isiB, Val.dat, Val.items, flat, flatA, isL, Bool.and_true, Bool.true_and, Bool.false_and, Bool.and_false, if_true, if_false, Bool.false_eq_true, Option.map_some, Option.map_none, Bool.not_true, Bool.not_false, decide_true, decide_false, reduceIte, reduceCtorEq, and_self, true_and, and_true, yesE_ap, sizeLine_eq, Nat.reduceLeDiff, frS, frzL, frz1, frzS, addW, subW, boolInt, revV, tupV, listV, isi2E, setIS, dnewE, get2E, listRgE, tupRgE, rg1R, rg2R, rg3R, eqP_int, eqP_str, neP_int, neP_str, Bool.true_or, Bool.false_or, Bool.or_true, Bool.or_false, Nat.reduceBEq, schedB]
theorem works_seq {d : PyData} {ds : List PyData} (hd : d = .list ds ∨ d = .tuple ds) (hl : ds.length ≤ 16777216) : F_are_works [.sh (.list cs), .sh d] p = some (.sh (.bool (schedL cs.length ds)), p) := by
  have c1 := fun (x : PyData) => compL_map (t := .nm 2) (fe := callF F_is_work [(varE 0), (varE 2)]) (sl := [.sh (.list cs), .sh x, .un]) (fun d => .bool (stepB cs.length d)) ds
    (fun d _ => ⟨_, rfl, fun p => ⟨.sh (.bool (stepB cs.length d)), by simp only [fillSl, List.length_cons, List.length_nil, List.replicate, List.cons_append, List.nil_append, List.getElem?_cons_zero, List.getElem?_cons_succ, List.set_cons_zero, List.set_cons_succ, Nat.reduceAdd, Nat.reduceSub, Nat.reduceLT, seqS, nxS, setS, dropS, retS, iteS, retV, asg, potS, potDivS, appS, extS, unpS, parS, asgPs, asgP, asgD, asgDs, calm, binE, unE, potE, constE, varE, andE, orE, notE, ifE, tupE, lstE, slE, optE, callE, callF, callKF, methE, isiE, argsE, argsOf, datsOf, resV, newT, newL, shq, shf_true, opF, cF, addV, mulV, ixV, slV, gtK, ltK, leK, geK, subK, addK, mulK, fdivK, modK, powK, intK, absK, isiB, Val.dat, Val.items, flat, flatA, isL, Bool.and_true, Bool.true_and, Bool.false_and, Bool.and_false, if_true, if_false, Bool.false_eq_true, Option.map_some, Option.map_none, Bool.not_true, Bool.not_false, decide_true, decide_false, reduceIte, reduceCtorEq, and_self, true_and, and_true, yesE_ap, sizeLine_eq, Nat.reduceLeDiff, frS, frzL, frz1, frzS, addW, subW, boolInt, revV, tupV, listV, isi2E, setIS, dnewE, get2E, listRgE, tupRgE, rg1R, rg2R, rg3R, eqP_int, eqP_str, neP_int, neP_str, Bool.true_or, Bool.false_or, Bool.or_true, Bool.or_false, Nat.reduceBEq, work], rfl⟩⟩) p
  have li : ∀ (x : PyData) (p : Pot), F_is_listed [.sh x] p = some (.sh (.bool (match x with | .list _ => true | .tuple _ => true | _ => false)), p) := fun x p => by
    unfold F_is_listed B_is_listed defF
    cases x <;> simp only [fillSl, List.length_cons, List.length_nil, List.replicate, List.cons_append, List.nil_append, List.getElem?_cons_zero, List.getElem?_cons_succ, List.set_cons_zero, List.set_cons_succ, Nat.reduceAdd, Nat.reduceSub, Nat.reduceLT, seqS, nxS, setS, dropS, retS, iteS, retV, asg, potS, potDivS, appS, extS, unpS, parS, asgPs, asgP, asgD, asgDs, calm, binE, unE, potE, constE, varE, andE, orE, notE, ifE, tupE, lstE, slE, optE, callE, callF, callKF, methE, isiE, argsE, argsOf, datsOf, resV, newT, newL, shq, shf_true, opF, cF, addV, mulV, ixV, slV, gtK, ltK, leK, geK, subK, addK, mulK, fdivK, modK, powK, intK, absK, isiB, Val.dat, Val.items, flat, flatA, isL, Bool.and_true, Bool.true_and, Bool.false_and, Bool.and_false, if_true, if_false, Bool.false_eq_true, Option.map_some, Option.map_none, Bool.not_true, Bool.not_false, decide_true, decide_false, reduceIte, reduceCtorEq, and_self, true_and, and_true, yesE_ap, sizeLine_eq, Nat.reduceLeDiff, frS, frzL, frz1, frzS, addW, subW, boolInt, revV, tupV, listV, isi2E, setIS, dnewE, get2E, listRgE, tupRgE, rg1R, rg2R, rg3R, eqP_int, eqP_str, neP_int, neP_str, Bool.true_or, Bool.false_or, Bool.or_true, Bool.or_false, Nat.reduceBEq]
  unfold F_are_works B_are_works defF schedL
  by_cases h2 : ds.length ≤ 2000
  · rcases hd with rfl | rfl <;> simp only [fillSl, List.length_cons, List.length_nil, List.replicate, List.cons_append, List.nil_append, List.getElem?_cons_zero, List.getElem?_cons_succ, List.set_cons_zero, List.set_cons_succ, Nat.reduceAdd, Nat.reduceSub, Nat.reduceLT, seqS, nxS, setS, dropS, retS, iteS, retV, asg, potS, potDivS, appS, extS, unpS, parS, asgPs, asgP, asgD, asgDs, calm, binE, unE, potE, constE, varE, andE, orE, notE, ifE, tupE, lstE, slE, optE, callE, callF, callKF, methE, isiE, argsE, argsOf, datsOf, resV, newT, newL, shq, shf_true, opF, cF, addV, mulV, ixV, slV, gtK, ltK, leK, geK, subK, addK, mulK, fdivK, modK, powK, intK, absK, isiB, Val.dat, Val.items, flat, flatA, isL, Bool.and_true, Bool.true_and, Bool.false_and, Bool.and_false, if_true, if_false, Bool.false_eq_true, Option.map_some, Option.map_none, Bool.not_true, Bool.not_false, decide_true, decide_false, reduceIte, reduceCtorEq, and_self, true_and, and_true, yesE_ap, sizeLine_eq, Nat.reduceLeDiff, frS, frzL, frz1, frzS, addW, subW, boolInt, revV, tupV, listV, isi2E, setIS, dnewE, get2E, listRgE, tupRgE, rg1R, rg2R, rg3R, eqP_int, eqP_str, neP_int, neP_str, Bool.true_or, Bool.false_or, Bool.or_true, Bool.or_false, Nat.reduceBEq, li, lenV, lcE, itJ, wipeSl, c1, List.length_map, hl, all_bools, h2, nat2000]
  · rcases hd with rfl | rfl <;> simp only [fillSl, List.length_cons, List.length_nil, List.replicate, List.cons_append, List.nil_append, List.getElem?_cons_zero, List.getElem?_cons_succ, List.set_cons_zero, List.set_cons_succ, Nat.reduceAdd, Nat.reduceSub, Nat.reduceLT, seqS, nxS, setS, dropS, retS, iteS, retV, asg, potS, potDivS, appS, extS, unpS, parS, asgPs, asgP, asgD, asgDs, calm, binE, unE, potE, constE, varE, andE, orE, notE, ifE, tupE, lstE, slE, optE, callE, callF, callKF, methE, isiE, argsE, argsOf, datsOf, resV, newT, newL, shq, shf_true, opF, cF, addV, mulV, ixV, slV, gtK, ltK, leK, geK, subK, addK, mulK, fdivK, modK, powK, intK, absK, isiB, Val.dat, Val.items, flat, flatA, isL, Bool.and_true, Bool.true_and, Bool.false_and, Bool.and_false, if_true, if_false, Bool.false_eq_true, Option.map_some, Option.map_none, Bool.not_true, Bool.not_false, decide_true, decide_false, reduceIte, reduceCtorEq, and_self, true_and, and_true, yesE_ap, sizeLine_eq, Nat.reduceLeDiff, frS, frzL, frz1, frzS, addW, subW, boolInt, revV, tupV, listV, isi2E, setIS, dnewE, get2E, listRgE, tupRgE, rg1R, rg2R, rg3R, eqP_int, eqP_str, neP_int, neP_str, Bool.true_or, Bool.false_or, Bool.or_true, Bool.or_false, Nat.reduceBEq, li, lenV, h2, nat2000]
theorem works (d : PyData) (hl : ∀ ds, d = .list ds ∨ d = .tuple ds → ds.length ≤ 16777216) : F_are_works [.sh (.list cs), .sh d] p = some (.sh (.bool (schedB cs.length d)), p) := by
  cases d with
  | list ds => exact works_seq cs p (.inl rfl) (hl ds (.inl rfl))
  | tuple ds => exact works_seq cs p (.inr rfl) (hl ds (.inr rfl))
  | _ =>
    unfold F_are_works B_are_works defF
    simp only [fillSl, List.length_cons, List.length_nil, List.replicate, List.cons_append, List.nil_append, List.getElem?_cons_zero, List.getElem?_cons_succ, List.set_cons_zero, List.set_cons_succ, Nat.reduceAdd, Nat.reduceSub, Nat.reduceLT, seqS, nxS, setS, dropS, retS, iteS, retV, asg, potS, potDivS, appS, extS, unpS, parS, asgPs, asgP, asgD, asgDs, calm, binE, unE, potE, constE, varE, andE, orE, notE, ifE, tupE, lstE, slE, optE, callE, callF, callKF, methE, isiE, argsE, argsOf, datsOf, resV, newT, newL, shq, shf_true, opF, cF, addV, mulV, ixV, slV, gtK, ltK, leK, geK, subK, addK, mulK, fdivK, modK, powK, intK, absK, isiB, Val.dat, Val.items, flat, flatA, isL, Bool.and_true, Bool.true_and, Bool.false_and, Bool.and_false, if_true, if_false, Bool.false_eq_true, Option.map_some, Option.map_none, Bool.not_true, Bool.not_false, decide_true, decide_false, reduceIte, reduceCtorEq, and_self, true_and, and_true, yesE_ap, sizeLine_eq, Nat.reduceLeDiff, frS, frzL, frz1, frzS, addW, subW, boolInt, revV, tupV, listV, isi2E, setIS, dnewE, get2E, listRgE, tupRgE, rg1R, rg2R, rg3R, eqP_int, eqP_str, neP_int, neP_str, Bool.true_or, Bool.false_or, Bool.or_true, Bool.or_false, Nat.reduceBEq, F_is_listed, B_is_listed, defF, schedB]
end
theorem is_schedule {S W : Nat} {low : Int} {tb : List PyData} (R : Rule S W low tb) (cs : List PyData) (hn : cs.length ≤ 8) (hc : cutsL (leastM (rm0 low) (rm1 W low)) cs = true) (p : Pot) (d : PyData) (hl : ∀ ds, d = .list ds ∨ d = .tuple ds → ds.length ≤ 16777216) :
    F_is_schedule [.sh (rl S low tb), .sh (.list cs), .sh d] p = some (.sh (.bool (schedB cs.length d)), p) := by
  have e1 := want_rule R p
  obtain ⟨v, e2⟩ := want_cuts R cs p (by omega) hc
  have e3 := works cs p d hl
  unfold F_is_schedule B_is_schedule defF
  generalize rl S low tb = x0 at *
  simp only [fillSl, List.length_cons, List.length_nil, List.replicate, List.cons_append, List.nil_append, List.getElem?_cons_zero, List.getElem?_cons_succ, List.set_cons_zero, List.set_cons_succ, Nat.reduceAdd, Nat.reduceSub, Nat.reduceLT, seqS, nxS, setS, dropS, retS, iteS, retV, asg, potS, potDivS, appS, extS, unpS, parS, asgPs, asgP, asgD, asgDs, calm, binE, unE, potE, constE, varE, andE, orE, notE, ifE, tupE, lstE, slE, optE, callE, callF, callKF, methE, isiE, argsE, argsOf, datsOf, resV, newT, newL, shq, shf_true, opF, cF, addV, mulV, ixV, slV, gtK, ltK, leK, geK, subK, addK, mulK, fdivK, modK, powK, intK, absK, isiB, Val.dat, Val.items, flat, flatA, isL, Bool.and_true, Bool.true_and, Bool.false_and, Bool.and_false, if_true, if_false, Bool.false_eq_true, Option.map_some, Option.map_none, Bool.not_true, Bool.not_false, decide_true, decide_false, reduceIte, reduceCtorEq, and_self, true_and, and_true, yesE_ap, sizeLine_eq, Nat.reduceLeDiff, frS, frzL, frz1, frzS, addW, subW, boolInt, revV, tupV, listV, isi2E, setIS, dnewE, get2E, listRgE, tupRgE, rg1R, rg2R, rg3R, eqP_int, eqP_str, neP_int, neP_str, Bool.true_or, Bool.false_or, Bool.or_true, Bool.or_false, Nat.reduceBEq, e1, e2, e3]
end K94

namespace K94
open PySem PySem.Spec PyProof.Rows L2 Pu
/-! ### things bent -/
/-- fit to be told, of a size -/
structure Fit (m w t : Nat) (d : PyData) : Prop where
  g : gd m d = true
  w : d.weight ≤ w
  t : d.depth ≤ t
theorem Fit.of_all {m w t : Nat} {ds : List PyData} (g : ds.all (gd m) = true) (hw : PyData.weightAll ds ≤ w) (ht : ∀ x ∈ ds, x.depth ≤ t) : Fit m w (t + 1) (.list ds) ∧ Fit m w (t + 1) (.tuple ds) := by
  have hd : PyData.depthAll ds ≤ t := dA_le.mpr ht
  exact ⟨⟨by rw [gd_list]; exact g, by simpa only [PyData.weight] using hw, by simp only [PyData.depth]; omega⟩, ⟨by rw [gd_tuple]; exact g, by simpa only [PyData.weight] using hw, by simp only [PyData.depth]; omega⟩⟩
theorem ixN_nat {n j : Nat} (h : j < n) : ixN n (j : Int) = some j := by
  unfold ixN
  rw [if_pos (by omega), if_pos (by omega)]; simp
theorem cut_sub {xs : List PyData} {lo hi : Option Int} : PyData.weightAll (Pu.cutD xs lo hi) ≤ PyData.weightAll xs ∧ (∀ x ∈ Pu.cutD xs lo hi, x ∈ xs) ∧ (Pu.cutD xs lo hi).length ≤ xs.length := by
  unfold Pu.cutD
  refine ⟨Nat.le_trans (wA_take _ _) (wA_drop _ _), fun x h => List.mem_of_mem_drop (List.mem_of_mem_take h), ?_⟩
  rw [List.length_take, List.length_drop]
  omega
theorem all_sub {f : PyData → Bool} {xs ys : List PyData} (h : xs.all f = true) (s : ∀ x ∈ ys, x ∈ xs) : ys.all f = true := List.all_eq_true.mpr fun x hx => List.all_eq_true.mp h x (s x hx)
theorem wA_len : ∀ ds : List PyData, ds.length ≤ PyData.weightAll ds
  | [] => Nat.zero_le _
  | x :: xs => by
    have := wA_len xs
    simp only [List.length_cons, PyData.weightAll]
    omega
def oddsL : List PyData := [.none, .int 0, .int 1, .int 2, .int (-1), .bool true, .str "go", .str "fall", .str "bring", .str "letter", .str "Go", .tuple [], .list [], .dict [], .int 400, .int 401, .int 1000, .int 1001, .int 3, .int 9, .tuple [.int 0], .tuple [.int 1, .int 0], .str "0"]
theorem small_int {i : Int} (h : i.natAbs ≤ 5001) : Fit 5001 20 1 (.int i) := by
  refine ⟨by simp only [gd, decide_eq_true_eq]; exact h, ?_, by simp only [PyData.depth]; omega⟩
  have : i.natAbs.log2 ≤ 12 := by
    by_cases h0 : i.natAbs = 0
    · rw [h0]; decide
    · have := (Nat.log2_lt h0).mpr (show i.natAbs < 2 ^ 13 from Nat.lt_of_le_of_lt h (by decide))
      omega
  simp only [PyData.weight]
  split <;> omega
theorem odds_fit : ∀ d ∈ oddsL, Fit 5001 20 1 d := by
  intro d hd
  simp only [oddsL, List.mem_cons, List.not_mem_nil, or_false] at hd
  rcases hd with rfl | rfl | rfl | rfl | rfl | rfl | rfl | rfl | rfl | rfl | rfl | rfl | rfl | rfl | rfl | rfl | rfl | rfl | rfl | rfl | rfl | rfl | rfl <;> exact ⟨by decide +kernel, by decide +kernel, by decide +kernel⟩
theorem dat_res {v : Val} {d : PyData} (h : v.dat = some (d, true)) (as : List Slot) : (resV true as v).dat = some (d, true) := by
  cases v with
  | sh x =>
    have e : resV true as (.sh x) = if flat x = true then .sh x else if (true && flatA as && isL x) = true then .is x else shq true x := by
      unfold resV; rfl
    rw [e]
    split
    · exact h
    · split
      · exact h
      · exact h
  | fr x => exact h
  | is x => exact h
  | bo x => simp only [Val.dat, Option.some.injEq, Prod.mk.injEq, Bool.false_eq_true, and_false] at h
  | ow i x => simp only [Val.dat, Option.some.injEq, Prod.mk.injEq, Bool.false_eq_true, and_false] at h
  | pot => cases h
theorem calm_dat {v : Val} {d : PyData} (h : v.dat = some (d, true)) (sl : Sl) : Pu.calm v sl = sl := by
  cases v with
  | bo x => simp only [Val.dat, Option.some.injEq, Prod.mk.injEq, Bool.false_eq_true, and_false] at h
  | ow i x => simp only [Val.dat, Option.some.injEq, Prod.mk.injEq, Bool.false_eq_true, and_false] at h
  | _ => rfl
/-- the odds -/
def oddE : Ev := (lstE [(constE .none), (constE (.int 0)), (constE (.int 1)), (constE (.int 2)), (unE negV (constE (.int 1))), (constE (.bool true)), (constE (.str "go")), (constE (.str "fall")), (constE (.str "bring")), (constE (.str "letter")), (constE (.str "Go")), (tupE []), (lstE []), dnewE, (constE (.int 400)), (constE (.int 401)), (constE (.int 1000)), (constE (.int 1001)), (constE (.int 3)), (constE (.int 9)), (tupE [(constE (.int 0))]), (tupE [(constE (.int 1)), (constE (.int 0))]), (constE (.str "0"))])
def oddS (i : Nat) : Sm := seqS (setS i oddE)
    (retS (callF F_law_pick [(varE 0), (binE addW (varE 5) (ifE (isiE "int" (varE 1)) (lstE [(binE addW (varE 1) (constE (.int 1))), (binE subW (varE 1) (constE (.int 1)))]) (lstE [])))]))
def BentOk (d : PyData) (r : Option (Val × Pot)) : Prop := ∃ v d' p', r = some (v, p') ∧ v.dat = some (d', true) ∧ Fit 5001 (2 * d.weight + 20) (d.depth + 1) d'
def OddOk (r : Option Out) : Prop := ∃ d' p', r = some (.rt (.sh d') p') ∧ Fit 5001 20 1 d'
theorem lst_odds (sl : Sl) (p : Pot) : oddE sl p = some (.fr (.list oddsL), p) := rfl
theorem odd_ok (d : PyData) (hd : gd 5000 d = true) (s2 s3 s4 : Slot) (p : Pot) : OddOk (oddS 5 [.pot, .sh d, s2, s3, s4, .un] p) := by
  have hl : oddsL.length = 23 := rfl
  cases d with
  | int i =>
    have hi : i.natAbs ≤ 5000 := by simpa only [gd, decide_eq_true_eq] using hd
    obtain ⟨e, he, p', ep⟩ := pick p (oddsL ++ [.int (i + 1), .int (i - 1)]) (by simp) (by rw [List.length_append, hl]; exact (by decide : 25 < 1073741824))
    have fe : Fit 5001 20 1 e := by
      rcases List.mem_append.mp he with h | h
      · exact odds_fit e h
      · simp only [List.mem_cons, List.not_mem_nil, or_false] at h
        rcases h with rfl | rfl
        · exact small_int (by omega)
        · exact small_int (by omega)
    refine ⟨e, p', ?_, fe⟩
    unfold oddS
    simp only [fillSl, List.length_cons, List.length_nil, List.replicate, List.cons_append, List.nil_append, List.getElem?_cons_zero, List.getElem?_cons_succ, List.set_cons_zero, List.set_cons_succ, Nat.reduceAdd, Nat.reduceSub, Nat.reduceLT, seqS, nxS, setS, dropS, retS, iteS, retV, asg, potS, potDivS, appS, extS, unpS, parS, asgPs, asgP, asgD, asgDs, calm, binE, unE, potE, constE, varE, andE, orE, notE, ifE, tupE, lstE, slE, optE, callE, callF, callKF, methE, isiE, argsE, argsOf, datsOf, resV, newT, newL, shq, shf_true, opF, cF, addV, mulV, ixV, slV, gtK, ltK, leK, geK, subK, addK, mulK, fdivK, modK, powK, intK, absK, isiB, Val.dat, Val.items, flat, flatA, isL, Bool.and_true, Bool.true_and, Bool.false_and, Bool.and_false, if_true, if_false, Bool.false_eq_true, Option.map_some, Option.map_none, Bool.not_true, Bool.not_false, decide_true, decide_false, reduceIte, reduceCtorEq, and_self, true_and, and_true, yesE_ap, sizeLine_eq, Nat.reduceLeDiff, frS, frzL, frz1, frzS, addW, subW, boolInt, revV, tupV, listV, isi2E, setIS, dnewE, get2E, listRgE, tupRgE, rg1R, rg2R, rg3R, eqP_int, eqP_str, neP_int, neP_str, Bool.true_or, Bool.false_or, Bool.or_true, Bool.or_false, Nat.reduceBEq, lst_odds, hl, ep]
    clear ep
    cases e <;> rfl
  | bool b =>
    have hi : ∀ j : Int, ((if b = true then (1 : Int) else 0) + 1 = j ∨ (if b = true then (1 : Int) else 0) - 1 = j) → Fit 5001 20 1 (.int j) := fun j h => small_int (by split at h <;> omega)
    obtain ⟨e, he, p', ep⟩ := pick p (oddsL ++ [.int ((if b = true then (1 : Int) else 0) + 1), .int ((if b = true then (1 : Int) else 0) - 1)]) (by simp) (by rw [List.length_append, hl]; exact (by decide : 25 < 1073741824))
    have fe : Fit 5001 20 1 e := by
      rcases List.mem_append.mp he with h | h
      · exact odds_fit e h
      · simp only [List.mem_cons, List.not_mem_nil, or_false] at h
        rcases h with rfl | rfl
        · exact hi _ (.inl rfl)
        · exact hi _ (.inr rfl)
    refine ⟨e, p', ?_, fe⟩
    unfold oddS
    simp only [fillSl, List.length_cons, List.length_nil, List.replicate, List.cons_append, List.nil_append, List.getElem?_cons_zero, List.getElem?_cons_succ, List.set_cons_zero, List.set_cons_succ, Nat.reduceAdd, Nat.reduceSub, Nat.reduceLT, seqS, nxS, setS, dropS, retS, iteS, retV, asg, potS, potDivS, appS, extS, unpS, parS, asgPs, asgP, asgD, asgDs, calm, binE, unE, potE, constE, varE, andE, orE, notE, ifE, tupE, lstE, slE, optE, callE, callF, callKF, methE, isiE, argsE, argsOf, datsOf, resV, newT, newL, shq, shf_true, opF, cF, addV, mulV, ixV, slV, gtK, ltK, leK, geK, subK, addK, mulK, fdivK, modK, powK, intK, absK, isiB, Val.dat, Val.items, flat, flatA, isL, Bool.and_true, Bool.true_and, Bool.false_and, Bool.and_false, if_true, if_false, Bool.false_eq_true, Option.map_some, Option.map_none, Bool.not_true, Bool.not_false, decide_true, decide_false, reduceIte, reduceCtorEq, and_self, true_and, and_true, yesE_ap, sizeLine_eq, Nat.reduceLeDiff, frS, frzL, frz1, frzS, addW, subW, boolInt, revV, tupV, listV, isi2E, setIS, dnewE, get2E, listRgE, tupRgE, rg1R, rg2R, rg3R, eqP_int, eqP_str, neP_int, neP_str, Bool.true_or, Bool.false_or, Bool.or_true, Bool.or_false, Nat.reduceBEq, lst_odds, hl, ep]
    clear ep
    cases e <;> rfl
  | _ =>
    obtain ⟨e, he, p', ep⟩ := pick p (oddsL ++ []) (by simp [oddsL]) (by rw [List.length_append, hl]; exact (by decide : 23 < 1073741824))
    refine ⟨e, p', ?_, odds_fit e (by rw [List.append_nil] at he; exact he)⟩
    unfold oddS
    simp only [fillSl, List.length_cons, List.length_nil, List.replicate, List.cons_append, List.nil_append, List.getElem?_cons_zero, List.getElem?_cons_succ, List.set_cons_zero, List.set_cons_succ, Nat.reduceAdd, Nat.reduceSub, Nat.reduceLT, seqS, nxS, setS, dropS, retS, iteS, retV, asg, potS, potDivS, appS, extS, unpS, parS, asgPs, asgP, asgD, asgDs, calm, binE, unE, potE, constE, varE, andE, orE, notE, ifE, tupE, lstE, slE, optE, callE, callF, callKF, methE, isiE, argsE, argsOf, datsOf, resV, newT, newL, shq, shf_true, opF, cF, addV, mulV, ixV, slV, gtK, ltK, leK, geK, subK, addK, mulK, fdivK, modK, powK, intK, absK, isiB, Val.dat, Val.items, flat, flatA, isL, Bool.and_true, Bool.true_and, Bool.false_and, Bool.and_false, if_true, if_false, Bool.false_eq_true, Option.map_some, Option.map_none, Bool.not_true, Bool.not_false, decide_true, decide_false, reduceIte, reduceCtorEq, and_self, true_and, and_true, yesE_ap, sizeLine_eq, Nat.reduceLeDiff, frS, frzL, frz1, frzS, addW, subW, boolInt, revV, tupV, listV, isi2E, setIS, dnewE, get2E, listRgE, tupRgE, rg1R, rg2R, rg3R, eqP_int, eqP_str, neP_int, neP_str, Bool.true_or, Bool.false_or, Bool.or_true, Bool.or_false, Nat.reduceBEq, lst_odds, hl, ep]
    clear ep
    cases e <;> rfl
end K94

namespace K94
open PySem PySem.Spec PyProof.Rows L2 Pu
noncomputable def bentC : Ev := (andE (isi2E "tuple" "list" (varE 1)) (andE (binE (opF gtK) (callE lenV [(varE 1)]) (constE (.int 0))) (binE (opF gtK) (callF F_law_draw [(varE 0), (constE (.int 8))]) (constE (.int 0)))))
noncomputable def bentM (Fr : Fn) : Sm := (seqS (parS [2, 3] [(callF F_law_draw [(varE 0), (callE lenV [(varE 1)])]), (callF F_law_draw [(varE 0), (constE (.int 12))])])
    (seqS (iteS (binE (opF eqP) (varE 3) (constE (.int 0))) (retS (binE addW (slE (varE 1) none (some (varE 2))) (slE (varE 1) (some (binE addW (varE 2) (constE (.int 1)))) none))) nxS)
    (seqS (iteS (binE (opF eqP) (varE 3) (constE (.int 1))) (retS (binE addW (slE (varE 1) none (some (binE addW (varE 2) (constE (.int 1))))) (slE (varE 1) (some (varE 2)) none))) nxS)
    (seqS (iteS (binE (opF eqP) (varE 3) (constE (.int 2))) (retS (unE revV (varE 1))) nxS)
    (seqS (iteS (binE (opF eqP) (varE 3) (constE (.int 3))) (retS (ifE (isiE "tuple" (varE 1)) (callE listV [(varE 1)]) (callE tupV [(varE 1)]))) nxS)
    (seqS (setS 4 (callE listV [(varE 1)]))
    (seqS (setIS 4 (varE 2) (callF Fr [(varE 0), (binE ixV (varE 1) (varE 2))]))
    (retS (ifE (isiE "list" (varE 1)) (varE 4) (callE tupV [(varE 4)]))))))))))
theorem bent_is (Fr : Fn) : B_law_bent Fr = seqS (iteS bentC (bentM Fr) nxS) (oddS 5) := rfl
theorem resV_int (c : Bool) (as : List Slot) (i : Int) : resV c as (.sh (.int i)) = .sh (.int i) := rfl
theorem dat_cases {v : Val} {d : PyData} (h : v.dat = some (d, true)) : v = .sh d ∨ v = .fr d ∨ v = .is d := by
  cases v with
  | sh x => cases h; exact .inl rfl
  | fr x => cases h; exact .inr (.inl rfl)
  | is x => cases h; exact .inr (.inr rfl)
  | bo x => simp only [Val.dat, Option.some.injEq, Prod.mk.injEq, Bool.false_eq_true, and_false] at h
  | ow i x => simp only [Val.dat, Option.some.injEq, Prod.mk.injEq, Bool.false_eq_true, and_false] at h
  | pot => cases h
theorem zero_len {ds : List PyData} (h : ds ≠ []) : decide ((0 : Int) < (ds.length : Int)) = true := decide_eq_true (by have := List.length_pos_iff.mpr h; omega)
theorem odd_bent {d : PyData} {r : Option Out} (h : OddOk r) (Fr : Fn) (p p' : Pot) (e : (iteS bentC (bentM Fr) nxS) [.pot, .sh d, .un, .un, .un, .un] p = some (.nx [.pot, .sh d, .un, .un, .un, .un] p')) (er : oddS 5 [.pot, .sh d, .un, .un, .un, .un] p' = r) : BentOk d (defF 6 (B_law_bent Fr) [.pot, .sh d] p) := by
  obtain ⟨d', p'', rfl, f⟩ := h
  refine ⟨.sh d', d', p'', ?_, rfl, ⟨f.g, by have := f.w; omega, by have := f.t; omega⟩⟩
  have e0 : fillSl 6 [.pot, .sh d] = [.pot, .sh d, .un, .un, .un, .un] := rfl
  unfold defF
  rw [e0, bent_is]
  unfold seqS
  rw [e]
  dsimp only
  rw [er]
theorem bent_flat (Fr : Fn) {d : PyData} (hd : (match d with | .list _ => false | .tuple _ => false | _ => true) = true) (g : gd 5000 d = true) (p : Pot) : BentOk d (defF 6 (B_law_bent Fr) [.pot, .sh d] p) := by
  refine odd_bent (odd_ok d g .un .un .un p) Fr p p ?_ rfl
  unfold bentC
  cases d with
  | list _ => cases hd
  | tuple _ => cases hd
  | _ => simp only [fillSl, List.length_cons, List.length_nil, List.replicate, List.cons_append, List.nil_append, List.getElem?_cons_zero, List.getElem?_cons_succ, List.set_cons_zero, List.set_cons_succ, Nat.reduceAdd, Nat.reduceSub, Nat.reduceLT, seqS, nxS, setS, dropS, retS, iteS, retV, asg, potS, potDivS, appS, extS, unpS, parS, asgPs, asgP, asgD, asgDs, calm, binE, unE, potE, constE, varE, andE, orE, notE, ifE, tupE, lstE, slE, optE, callE, callF, callKF, methE, isiE, argsE, argsOf, datsOf, resV, newT, newL, shq, shf_true, opF, cF, addV, mulV, ixV, slV, gtK, ltK, leK, geK, subK, addK, mulK, fdivK, modK, powK, intK, absK, isiB, Val.dat, Val.items, flat, flatA, isL, Bool.and_true, Bool.true_and, Bool.false_and, Bool.and_false, if_true, if_false, Bool.false_eq_true, Option.map_some, Option.map_none, Bool.not_true, Bool.not_false, decide_true, decide_false, reduceIte, reduceCtorEq, and_self, true_and, and_true, yesE_ap, sizeLine_eq, Nat.reduceLeDiff, frS, frzL, frz1, frzS, addW, subW, boolInt, revV, tupV, listV, isi2E, setIS, dnewE, get2E, listRgE, tupRgE, rg1R, rg2R, rg3R, eqP_int, eqP_str, neP_int, neP_str, Bool.true_or, Bool.false_or, Bool.or_true, Bool.or_false, Nat.reduceBEq]
theorem fit_w {m w t : Nat} {ds : List PyData} (g : ds.all (gd m) = true) (hw : PyData.weightAll ds ≤ w) (ht : ∀ x ∈ ds, x.depth ≤ t) {e : PyData} (he : e = .list ds ∨ e = .tuple ds) : Fit m w (t + 1) e := by
  rcases he with rfl | rfl
  · exact (Fit.of_all g hw ht).1
  · exact (Fit.of_all g hw ht).2
theorem bent_seq (Fr : Fn) {d : PyData} {ds : List PyData} (hd : d = .list ds ∨ d = .tuple ds) (hFr : ∀ x ∈ ds, ∀ p, BentOk x (Fr [.pot, .sh x] p)) (g : gd 5000 d = true) (hw : d.weight ≤ 60000) (p : Pot) : BentOk d (defF 6 (B_law_bent Fr) [.pot, .sh d] p) := by
  have ga : ds.all (gd 5000) = true := by
    rcases hd with rfl | rfl
    · rw [gd_list] at g; exact g
    · rw [gd_tuple] at g; exact g
  have ga1 : ds.all (gd 5001) = true := List.all_eq_true.mpr fun x hx => gd_mono (by decide) (List.all_eq_true.mp ga x hx)
  have wd : d.weight = PyData.weightAll ds := by rcases hd with rfl | rfl <;> simp only [PyData.weight]
  have td : ∃ t, d.depth = t + 1 ∧ ∀ x ∈ ds, x.depth ≤ t := by
    refine ⟨PyData.depthAll ds, ?_, dA_le.mp (Nat.le_refl _)⟩
    rcases hd with rfl | rfl <;> simp only [PyData.depth]
  obtain ⟨t, td, tx⟩ := td
  have hl := wA_len ds
  rw [wd] at hw
  by_cases hn : ds = []
  · subst hn
    refine odd_bent (odd_ok d g .un .un .un p) Fr p p ?_ rfl
    unfold bentC
    have z0 : decide ((0 : Int) < ((0 : Nat) : Int)) = false := rfl
    rcases hd with rfl | rfl <;> simp only [fillSl, List.length_cons, List.length_nil, List.replicate, List.cons_append, List.nil_append, List.getElem?_cons_zero, List.getElem?_cons_succ, List.set_cons_zero, List.set_cons_succ, Nat.reduceAdd, Nat.reduceSub, Nat.reduceLT, seqS, nxS, setS, dropS, retS, iteS, retV, asg, potS, potDivS, appS, extS, unpS, parS, asgPs, asgP, asgD, asgDs, calm, binE, unE, potE, constE, varE, andE, orE, notE, ifE, tupE, lstE, slE, optE, callE, callF, callKF, methE, isiE, argsE, argsOf, datsOf, resV, newT, newL, shq, shf_true, opF, cF, addV, mulV, ixV, slV, gtK, ltK, leK, geK, subK, addK, mulK, fdivK, modK, powK, intK, absK, isiB, Val.dat, Val.items, flat, flatA, isL, Bool.and_true, Bool.true_and, Bool.false_and, Bool.and_false, if_true, if_false, Bool.false_eq_true, Option.map_some, Option.map_none, Bool.not_true, Bool.not_false, decide_true, decide_false, reduceIte, reduceCtorEq, and_self, true_and, and_true, yesE_ap, sizeLine_eq, Nat.reduceLeDiff, frS, frzL, frz1, frzS, addW, subW, boolInt, revV, tupV, listV, isi2E, setIS, dnewE, get2E, listRgE, tupRgE, rg1R, rg2R, rg3R, eqP_int, eqP_str, neP_int, neP_str, Bool.true_or, Bool.false_or, Bool.or_true, Bool.or_false, Nat.reduceBEq, lenV, z0]
  have hz := zero_len hn
  obtain ⟨x, p1, e1, x0, x8⟩ := draw p 8 (by decide) (by decide)
  cases hx : decide (0 < x) with
  | false =>
    refine odd_bent (odd_ok d g .un .un .un p1) Fr p p1 ?_ rfl
    unfold bentC
    generalize hk : (ds.length : Int) = k at *
    rcases hd with rfl | rfl <;> simp only [fillSl, List.length_cons, List.length_nil, List.replicate, List.cons_append, List.nil_append, List.getElem?_cons_zero, List.getElem?_cons_succ, List.set_cons_zero, List.set_cons_succ, Nat.reduceAdd, Nat.reduceSub, Nat.reduceLT, seqS, nxS, setS, dropS, retS, iteS, retV, asg, potS, potDivS, appS, extS, unpS, parS, asgPs, asgP, asgD, asgDs, calm, binE, unE, potE, constE, varE, andE, orE, notE, ifE, tupE, lstE, slE, optE, callE, callF, callKF, methE, isiE, argsE, argsOf, datsOf, resV, newT, newL, shq, shf_true, opF, cF, addV, mulV, ixV, slV, gtK, ltK, leK, geK, subK, addK, mulK, fdivK, modK, powK, intK, absK, isiB, Val.dat, Val.items, flat, flatA, isL, Bool.and_true, Bool.true_and, Bool.false_and, Bool.and_false, if_true, if_false, Bool.false_eq_true, Option.map_some, Option.map_none, Bool.not_true, Bool.not_false, decide_true, decide_false, reduceIte, reduceCtorEq, and_self, true_and, and_true, yesE_ap, sizeLine_eq, Nat.reduceLeDiff, frS, frzL, frz1, frzS, addW, subW, boolInt, revV, tupV, listV, isi2E, setIS, dnewE, get2E, listRgE, tupRgE, rg1R, rg2R, rg3R, eqP_int, eqP_str, neP_int, neP_str, Bool.true_or, Bool.false_or, Bool.or_true, Bool.or_false, Nat.reduceBEq, lenV, hk, hz, e1, hx]
  | true =>
  obtain ⟨i, p2, e2, i0, i1⟩ := draw p1 (ds.length : Int) (by have := List.length_pos_iff.mpr hn; omega) (by omega)
  obtain ⟨j, rfl⟩ : ∃ j : Nat, i = j := ⟨i.toNat, by omega⟩
  have hj : j < ds.length := by omega
  obtain ⟨w, p3, e3, w0, w1⟩ := draw p2 12 (by decide) (by decide)
  have s24 : ds.length + ds.length ≤ 16777216 := by omega
  have c1 := @cut_sub ds none (some (j : Int))
  have c2 := @cut_sub ds (some ((j : Int) + 1)) none
  have c3 := @cut_sub ds none (some ((j : Int) + 1))
  have c4 := @cut_sub ds (some (j : Int)) none
  have l12 : (Pu.cutD ds none (some (j : Int))).length + (Pu.cutD ds (some ((j : Int) + 1)) none).length ≤ 16777216 := by omega
  have l34 : (Pu.cutD ds none (some ((j : Int) + 1))).length + (Pu.cutD ds (some (j : Int)) none).length ≤ 16777216 := by omega
  have two : ∀ {xs ys : List PyData}, (PyData.weightAll xs ≤ PyData.weightAll ds ∧ (∀ x ∈ xs, x ∈ ds) ∧ xs.length ≤ ds.length) → (PyData.weightAll ys ≤ PyData.weightAll ds ∧ (∀ x ∈ ys, x ∈ ds) ∧ ys.length ≤ ds.length) →
      ∀ e, (e = .list (xs ++ ys) ∨ e = .tuple (xs ++ ys)) → Fit 5001 (2 * d.weight + 20) (d.depth + 1) e := fun {xs ys} a b e he => by
    have sub : ∀ x ∈ xs ++ ys, x ∈ ds := fun x hx => (List.mem_append.mp hx).elim (a.2.1 x) (b.2.1 x)
    have f := fit_w (w := 2 * d.weight + 20) (t := t) (all_sub ga1 sub) (by rw [wA_append, wd]; have := a.1; have := b.1; omega) (fun x hx => tx x (sub x hx)) he
    exact ⟨f.g, f.w, by have := f.t; omega⟩
  have one : ∀ {xs : List PyData}, PyData.weightAll xs ≤ 2 * PyData.weightAll ds + 20 → (∀ x ∈ xs, gd 5001 x = true ∧ x.depth ≤ t + 1) → ∀ e, (e = .list xs ∨ e = .tuple xs) → Fit 5001 (2 * d.weight + 20) (d.depth + 1) e := fun {xs} a b e he => by
    have f := fit_w (w := 2 * d.weight + 20) (t := t + 1) (List.all_eq_true.mpr fun x hx => (b x hx).1) (by rw [wd]; exact a) (fun x hx => (b x hx).2) he
    exact ⟨f.g, f.w, by have := f.t; omega⟩
  have all1 : ∀ x ∈ ds, gd 5001 x = true ∧ x.depth ≤ t + 1 := fun x hx => ⟨List.all_eq_true.mp ga1 x hx, Nat.le_succ_of_le (tx x hx)⟩
  unfold BentOk
  rw [bent_is]
  unfold bentC bentM defF
  have ha : atI ds (j : Int) = some ds[j] := atI_nat (List.getElem?_eq_getElem hj)
  have hjx := ixN_nat hj
  have hmem : ds[j] ∈ ds := List.getElem_mem hj
  obtain ⟨v, y, p4, ev, evd, fy⟩ := hFr ds[j] hmem p3
  have dv := dat_res evd [.pot, .sh ds[j]]
  have cv := calm_dat dv
  have wset := wA_set hj y
  have wmem := wA_mem hmem
  have fin : Fit 5001 (2 * d.weight + 20) (d.depth + 1) (.list (ds.set j y)) ∧ Fit 5001 (2 * d.weight + 20) (d.depth + 1) (.tuple (ds.set j y)) := by
    have fw := fy.w
    have ft := fy.t
    have tj := tx _ hmem
    have q := @one (ds.set j y) (by omega) (fun x hx => by
      rcases List.mem_or_eq_of_mem_set hx with h | rfl
      · exact all1 x h
      · exact ⟨fy.g, by omega⟩)
    exact ⟨q _ (.inl rfl), q _ (.inr rfl)⟩
  generalize hjj : (j : Int) = jj at *
  generalize hk : (ds.length : Int) = k at *
  generalize ds[j] = dj at *
  generalize hv : resV true [.pot, .sh dj] v = v' at *
  cases h0 : decide (w = 0) with
  | true =>
    rcases hd with rfl | rfl
    · refine ⟨.fr (.list (Pu.cutD ds none (some jj) ++ Pu.cutD ds (some (jj + 1)) none)), _, p3, ?_, rfl, two c1 c2 _ (.inl rfl)⟩
      simp only [fillSl, List.length_cons, List.length_nil, List.replicate, List.cons_append, List.nil_append, List.getElem?_cons_zero, List.getElem?_cons_succ, List.set_cons_zero, List.set_cons_succ, Nat.reduceAdd, Nat.reduceSub, Nat.reduceLT, seqS, nxS, setS, dropS, retS, iteS, retV, asg, potS, potDivS, appS, extS, unpS, parS, asgPs, asgP, asgD, asgDs, calm, binE, unE, potE, constE, varE, andE, orE, notE, ifE, tupE, lstE, slE, optE, callE, callF, callKF, methE, isiE, argsE, argsOf, datsOf, resV, newT, newL, shq, shf_true, opF, cF, addV, mulV, ixV, slV, gtK, ltK, leK, geK, subK, addK, mulK, fdivK, modK, powK, intK, absK, isiB, Val.dat, Val.items, flat, flatA, isL, Bool.and_true, Bool.true_and, Bool.false_and, Bool.and_false, if_true, if_false, Bool.false_eq_true, Option.map_some, Option.map_none, Bool.not_true, Bool.not_false, decide_true, decide_false, reduceIte, reduceCtorEq, and_self, true_and, and_true, yesE_ap, sizeLine_eq, Nat.reduceLeDiff, frS, frzL, frz1, frzS, addW, subW, boolInt, revV, tupV, listV, isi2E, setIS, dnewE, get2E, listRgE, tupRgE, rg1R, rg2R, rg3R, eqP_int, eqP_str, neP_int, neP_str, Bool.true_or, Bool.false_or, Bool.or_true, Bool.or_false, Nat.reduceBEq, lenV, hk, hz, e1, hx, e2, e3, eqP_int, h0, slE, optE, slV, l12]
    · refine ⟨.sh (.tuple (Pu.cutD ds none (some jj) ++ Pu.cutD ds (some (jj + 1)) none)), _, p3, ?_, rfl, two c1 c2 _ (.inr rfl)⟩
      simp only [fillSl, List.length_cons, List.length_nil, List.replicate, List.cons_append, List.nil_append, List.getElem?_cons_zero, List.getElem?_cons_succ, List.set_cons_zero, List.set_cons_succ, Nat.reduceAdd, Nat.reduceSub, Nat.reduceLT, seqS, nxS, setS, dropS, retS, iteS, retV, asg, potS, potDivS, appS, extS, unpS, parS, asgPs, asgP, asgD, asgDs, calm, binE, unE, potE, constE, varE, andE, orE, notE, ifE, tupE, lstE, slE, optE, callE, callF, callKF, methE, isiE, argsE, argsOf, datsOf, resV, newT, newL, shq, shf_true, opF, cF, addV, mulV, ixV, slV, gtK, ltK, leK, geK, subK, addK, mulK, fdivK, modK, powK, intK, absK, isiB, Val.dat, Val.items, flat, flatA, isL, Bool.and_true, Bool.true_and, Bool.false_and, Bool.and_false, if_true, if_false, Bool.false_eq_true, Option.map_some, Option.map_none, Bool.not_true, Bool.not_false, decide_true, decide_false, reduceIte, reduceCtorEq, and_self, true_and, and_true, yesE_ap, sizeLine_eq, Nat.reduceLeDiff, frS, frzL, frz1, frzS, addW, subW, boolInt, revV, tupV, listV, isi2E, setIS, dnewE, get2E, listRgE, tupRgE, rg1R, rg2R, rg3R, eqP_int, eqP_str, neP_int, neP_str, Bool.true_or, Bool.false_or, Bool.or_true, Bool.or_false, Nat.reduceBEq, lenV, hk, hz, e1, hx, e2, e3, eqP_int, h0, slE, optE, slV, l12]
  | false =>
  cases h1 : decide (w = 1) with
  | true =>
    rcases hd with rfl | rfl
    · refine ⟨.fr (.list (Pu.cutD ds none (some (jj + 1)) ++ Pu.cutD ds (some jj) none)), _, p3, ?_, rfl, two c3 c4 _ (.inl rfl)⟩
      simp only [fillSl, List.length_cons, List.length_nil, List.replicate, List.cons_append, List.nil_append, List.getElem?_cons_zero, List.getElem?_cons_succ, List.set_cons_zero, List.set_cons_succ, Nat.reduceAdd, Nat.reduceSub, Nat.reduceLT, seqS, nxS, setS, dropS, retS, iteS, retV, asg, potS, potDivS, appS, extS, unpS, parS, asgPs, asgP, asgD, asgDs, calm, binE, unE, potE, constE, varE, andE, orE, notE, ifE, tupE, lstE, slE, optE, callE, callF, callKF, methE, isiE, argsE, argsOf, datsOf, resV, newT, newL, shq, shf_true, opF, cF, addV, mulV, ixV, slV, gtK, ltK, leK, geK, subK, addK, mulK, fdivK, modK, powK, intK, absK, isiB, Val.dat, Val.items, flat, flatA, isL, Bool.and_true, Bool.true_and, Bool.false_and, Bool.and_false, if_true, if_false, Bool.false_eq_true, Option.map_some, Option.map_none, Bool.not_true, Bool.not_false, decide_true, decide_false, reduceIte, reduceCtorEq, and_self, true_and, and_true, yesE_ap, sizeLine_eq, Nat.reduceLeDiff, frS, frzL, frz1, frzS, addW, subW, boolInt, revV, tupV, listV, isi2E, setIS, dnewE, get2E, listRgE, tupRgE, rg1R, rg2R, rg3R, eqP_int, eqP_str, neP_int, neP_str, Bool.true_or, Bool.false_or, Bool.or_true, Bool.or_false, Nat.reduceBEq, lenV, hk, hz, e1, hx, e2, e3, eqP_int, h0, h1, slE, optE, slV, l34]
    · refine ⟨.sh (.tuple (Pu.cutD ds none (some (jj + 1)) ++ Pu.cutD ds (some jj) none)), _, p3, ?_, rfl, two c3 c4 _ (.inr rfl)⟩
      simp only [fillSl, List.length_cons, List.length_nil, List.replicate, List.cons_append, List.nil_append, List.getElem?_cons_zero, List.getElem?_cons_succ, List.set_cons_zero, List.set_cons_succ, Nat.reduceAdd, Nat.reduceSub, Nat.reduceLT, seqS, nxS, setS, dropS, retS, iteS, retV, asg, potS, potDivS, appS, extS, unpS, parS, asgPs, asgP, asgD, asgDs, calm, binE, unE, potE, constE, varE, andE, orE, notE, ifE, tupE, lstE, slE, optE, callE, callF, callKF, methE, isiE, argsE, argsOf, datsOf, resV, newT, newL, shq, shf_true, opF, cF, addV, mulV, ixV, slV, gtK, ltK, leK, geK, subK, addK, mulK, fdivK, modK, powK, intK, absK, isiB, Val.dat, Val.items, flat, flatA, isL, Bool.and_true, Bool.true_and, Bool.false_and, Bool.and_false, if_true, if_false, Bool.false_eq_true, Option.map_some, Option.map_none, Bool.not_true, Bool.not_false, decide_true, decide_false, reduceIte, reduceCtorEq, and_self, true_and, and_true, yesE_ap, sizeLine_eq, Nat.reduceLeDiff, frS, frzL, frz1, frzS, addW, subW, boolInt, revV, tupV, listV, isi2E, setIS, dnewE, get2E, listRgE, tupRgE, rg1R, rg2R, rg3R, eqP_int, eqP_str, neP_int, neP_str, Bool.true_or, Bool.false_or, Bool.or_true, Bool.or_false, Nat.reduceBEq, lenV, hk, hz, e1, hx, e2, e3, eqP_int, h0, h1, slE, optE, slV, l34]
  | false =>
  cases h2 : decide (w = 2) with
  | true =>
    have rv := @one ds.reverse (by rw [wA_reverse]; omega) (fun x hx => all1 x (List.mem_reverse.mp hx))
    rcases hd with rfl | rfl
    · refine ⟨.fr (.list ds.reverse), _, p3, ?_, rfl, rv _ (.inl rfl)⟩
      simp only [fillSl, List.length_cons, List.length_nil, List.replicate, List.cons_append, List.nil_append, List.getElem?_cons_zero, List.getElem?_cons_succ, List.set_cons_zero, List.set_cons_succ, Nat.reduceAdd, Nat.reduceSub, Nat.reduceLT, seqS, nxS, setS, dropS, retS, iteS, retV, asg, potS, potDivS, appS, extS, unpS, parS, asgPs, asgP, asgD, asgDs, calm, binE, unE, potE, constE, varE, andE, orE, notE, ifE, tupE, lstE, slE, optE, callE, callF, callKF, methE, isiE, argsE, argsOf, datsOf, resV, newT, newL, shq, shf_true, opF, cF, addV, mulV, ixV, slV, gtK, ltK, leK, geK, subK, addK, mulK, fdivK, modK, powK, intK, absK, isiB, Val.dat, Val.items, flat, flatA, isL, Bool.and_true, Bool.true_and, Bool.false_and, Bool.and_false, if_true, if_false, Bool.false_eq_true, Option.map_some, Option.map_none, Bool.not_true, Bool.not_false, decide_true, decide_false, reduceIte, reduceCtorEq, and_self, true_and, and_true, yesE_ap, sizeLine_eq, Nat.reduceLeDiff, frS, frzL, frz1, frzS, addW, subW, boolInt, revV, tupV, listV, isi2E, setIS, dnewE, get2E, listRgE, tupRgE, rg1R, rg2R, rg3R, eqP_int, eqP_str, neP_int, neP_str, Bool.true_or, Bool.false_or, Bool.or_true, Bool.or_false, Nat.reduceBEq, lenV, hk, hz, e1, hx, e2, e3, eqP_int, h0, h1, h2]
    · refine ⟨.sh (.tuple ds.reverse), _, p3, ?_, rfl, rv _ (.inr rfl)⟩
      simp only [fillSl, List.length_cons, List.length_nil, List.replicate, List.cons_append, List.nil_append, List.getElem?_cons_zero, List.getElem?_cons_succ, List.set_cons_zero, List.set_cons_succ, Nat.reduceAdd, Nat.reduceSub, Nat.reduceLT, seqS, nxS, setS, dropS, retS, iteS, retV, asg, potS, potDivS, appS, extS, unpS, parS, asgPs, asgP, asgD, asgDs, calm, binE, unE, potE, constE, varE, andE, orE, notE, ifE, tupE, lstE, slE, optE, callE, callF, callKF, methE, isiE, argsE, argsOf, datsOf, resV, newT, newL, shq, shf_true, opF, cF, addV, mulV, ixV, slV, gtK, ltK, leK, geK, subK, addK, mulK, fdivK, modK, powK, intK, absK, isiB, Val.dat, Val.items, flat, flatA, isL, Bool.and_true, Bool.true_and, Bool.false_and, Bool.and_false, if_true, if_false, Bool.false_eq_true, Option.map_some, Option.map_none, Bool.not_true, Bool.not_false, decide_true, decide_false, reduceIte, reduceCtorEq, and_self, true_and, and_true, yesE_ap, sizeLine_eq, Nat.reduceLeDiff, frS, frzL, frz1, frzS, addW, subW, boolInt, revV, tupV, listV, isi2E, setIS, dnewE, get2E, listRgE, tupRgE, rg1R, rg2R, rg3R, eqP_int, eqP_str, neP_int, neP_str, Bool.true_or, Bool.false_or, Bool.or_true, Bool.or_false, Nat.reduceBEq, lenV, hk, hz, e1, hx, e2, e3, eqP_int, h0, h1, h2]
  | false =>
  cases h3 : decide (w = 3) with
  | true =>
    have rv := @one ds (by omega) all1
    rcases hd with rfl | rfl
    · refine ⟨.sh (.tuple ds), _, p3, ?_, rfl, rv _ (.inr rfl)⟩
      simp only [fillSl, List.length_cons, List.length_nil, List.replicate, List.cons_append, List.nil_append, List.getElem?_cons_zero, List.getElem?_cons_succ, List.set_cons_zero, List.set_cons_succ, Nat.reduceAdd, Nat.reduceSub, Nat.reduceLT, seqS, nxS, setS, dropS, retS, iteS, retV, asg, potS, potDivS, appS, extS, unpS, parS, asgPs, asgP, asgD, asgDs, calm, binE, unE, potE, constE, varE, andE, orE, notE, ifE, tupE, lstE, slE, optE, callE, callF, callKF, methE, isiE, argsE, argsOf, datsOf, resV, newT, newL, shq, shf_true, opF, cF, addV, mulV, ixV, slV, gtK, ltK, leK, geK, subK, addK, mulK, fdivK, modK, powK, intK, absK, isiB, Val.dat, Val.items, flat, flatA, isL, Bool.and_true, Bool.true_and, Bool.false_and, Bool.and_false, if_true, if_false, Bool.false_eq_true, Option.map_some, Option.map_none, Bool.not_true, Bool.not_false, decide_true, decide_false, reduceIte, reduceCtorEq, and_self, true_and, and_true, yesE_ap, sizeLine_eq, Nat.reduceLeDiff, frS, frzL, frz1, frzS, addW, subW, boolInt, revV, tupV, listV, isi2E, setIS, dnewE, get2E, listRgE, tupRgE, rg1R, rg2R, rg3R, eqP_int, eqP_str, neP_int, neP_str, Bool.true_or, Bool.false_or, Bool.or_true, Bool.or_false, Nat.reduceBEq, lenV, hk, hz, e1, hx, e2, e3, eqP_int, h0, h1, h2, h3]
    · refine ⟨.fr (.list ds), _, p3, ?_, rfl, rv _ (.inl rfl)⟩
      simp only [fillSl, List.length_cons, List.length_nil, List.replicate, List.cons_append, List.nil_append, List.getElem?_cons_zero, List.getElem?_cons_succ, List.set_cons_zero, List.set_cons_succ, Nat.reduceAdd, Nat.reduceSub, Nat.reduceLT, seqS, nxS, setS, dropS, retS, iteS, retV, asg, potS, potDivS, appS, extS, unpS, parS, asgPs, asgP, asgD, asgDs, calm, binE, unE, potE, constE, varE, andE, orE, notE, ifE, tupE, lstE, slE, optE, callE, callF, callKF, methE, isiE, argsE, argsOf, datsOf, resV, newT, newL, shq, shf_true, opF, cF, addV, mulV, ixV, slV, gtK, ltK, leK, geK, subK, addK, mulK, fdivK, modK, powK, intK, absK, isiB, Val.dat, Val.items, flat, flatA, isL, Bool.and_true, Bool.true_and, Bool.false_and, Bool.and_false, if_true, if_false, Bool.false_eq_true, Option.map_some, Option.map_none, Bool.not_true, Bool.not_false, decide_true, decide_false, reduceIte, reduceCtorEq, and_self, true_and, and_true, yesE_ap, sizeLine_eq, Nat.reduceLeDiff, frS, frzL, frz1, frzS, addW, subW, boolInt, revV, tupV, listV, isi2E, setIS, dnewE, get2E, listRgE, tupRgE, rg1R, rg2R, rg3R, eqP_int, eqP_str, neP_int, neP_str, Bool.true_or, Bool.false_or, Bool.or_true, Bool.or_false, Nat.reduceBEq, lenV, hk, hz, e1, hx, e2, e3, eqP_int, h0, h1, h2, h3]
  | false =>
    have hs : (if jj < 0 then 0 else 0) = (0 : Nat) := by split <;> rfl
    have dd := dat_cases dv
    rcases hd with rfl | rfl
    · refine ⟨.fr (.list (ds.set j y)), _, p4, ?_, rfl, fin.1⟩
      rcases dd with rfl | rfl | rfl <;> simp only [fillSl, List.length_cons, List.length_nil, List.replicate, List.cons_append, List.nil_append, List.getElem?_cons_zero, List.getElem?_cons_succ, List.set_cons_zero, List.set_cons_succ, Nat.reduceAdd, Nat.reduceSub, Nat.reduceLT, seqS, nxS, setS, dropS, retS, iteS, retV, asg, potS, potDivS, appS, extS, unpS, parS, asgPs, asgP, asgD, asgDs, calm, binE, unE, potE, constE, varE, andE, orE, notE, ifE, tupE, lstE, slE, optE, callE, callF, callKF, methE, isiE, argsE, argsOf, datsOf, newT, newL, shq, shf_true, opF, cF, addV, mulV, ixV, slV, gtK, ltK, leK, geK, subK, addK, mulK, fdivK, modK, powK, intK, absK, isiB, Val.dat, Val.items, flat, flatA, isL, Bool.and_true, Bool.true_and, Bool.false_and, Bool.and_false, if_true, if_false, Bool.false_eq_true, Option.map_some, Option.map_none, Bool.not_true, Bool.not_false, decide_true, decide_false, reduceIte, reduceCtorEq, and_self, true_and, and_true, yesE_ap, sizeLine_eq, Nat.reduceLeDiff, frS, frzL, frz1, frzS, addW, subW, boolInt, revV, tupV, listV, isi2E, setIS, dnewE, get2E, listRgE, tupRgE, rg1R, rg2R, rg3R, eqP_int, eqP_str, neP_int, neP_str, Bool.true_or, Bool.false_or, Bool.or_true, Bool.or_false, Nat.reduceBEq, resV_int, lenV, hk, hz, e1, hx, e2, e3, eqP_int, h0, h1, h2, h3, ha, ev, hv, Pu.calm, hjx]
    · refine ⟨.sh (.tuple (ds.set j y)), _, p4, ?_, rfl, fin.2⟩
      rcases dd with rfl | rfl | rfl <;> simp only [fillSl, List.length_cons, List.length_nil, List.replicate, List.cons_append, List.nil_append, List.getElem?_cons_zero, List.getElem?_cons_succ, List.set_cons_zero, List.set_cons_succ, Nat.reduceAdd, Nat.reduceSub, Nat.reduceLT, seqS, nxS, setS, dropS, retS, iteS, retV, asg, potS, potDivS, appS, extS, unpS, parS, asgPs, asgP, asgD, asgDs, calm, binE, unE, potE, constE, varE, andE, orE, notE, ifE, tupE, lstE, slE, optE, callE, callF, callKF, methE, isiE, argsE, argsOf, datsOf, newT, newL, shq, shf_true, opF, cF, addV, mulV, ixV, slV, gtK, ltK, leK, geK, subK, addK, mulK, fdivK, modK, powK, intK, absK, isiB, Val.dat, Val.items, flat, flatA, isL, Bool.and_true, Bool.true_and, Bool.false_and, Bool.and_false, if_true, if_false, Bool.false_eq_true, Option.map_some, Option.map_none, Bool.not_true, Bool.not_false, decide_true, decide_false, reduceIte, reduceCtorEq, and_self, true_and, and_true, yesE_ap, sizeLine_eq, Nat.reduceLeDiff, frS, frzL, frz1, frzS, addW, subW, boolInt, revV, tupV, listV, isi2E, setIS, dnewE, get2E, listRgE, tupRgE, rg1R, rg2R, rg3R, eqP_int, eqP_str, neP_int, neP_str, Bool.true_or, Bool.false_or, Bool.or_true, Bool.or_false, Nat.reduceBEq, resV_int, lenV, hk, hz, e1, hx, e2, e3, eqP_int, h0, h1, h2, h3, ha, ev, hv, Pu.calm, hjx]
end K94

namespace K94
open PySem PySem.Spec PyProof.Rows L2 Pu
theorem depth_mem {ds : List PyData} {x : PyData} (h : x ∈ ds) : x.depth ≤ PyData.depthAll ds := dA_le.mp (Nat.le_refl _) x h
theorem bent : ∀ (k : Nat) (d : PyData) (p : Pot), d.depth < k → gd 5000 d = true → d.weight ≤ 60000 → BentOk d (F_law_bent k [.pot, .sh d] p)
  | 0, d, p, h, _, _ => absurd h (Nat.not_lt_zero _)
  | k + 1, d, p, h, g, hw => by
    show BentOk d (defF 6 (B_law_bent (F_law_bent k)) [.pot, .sh d] p)
    have sub : ∀ ds, (d = .list ds ∨ d = .tuple ds) → ∀ x ∈ ds, ∀ p, BentOk x (F_law_bent k [.pot, .sh x] p) := fun ds hd x hx p => by
      have w1 := wA_mem hx
      have t1 := depth_mem hx
      have gx : gd 5000 x = true := by
        rcases hd with rfl | rfl
        · rw [gd_list] at g; exact List.all_eq_true.mp g x hx
        · rw [gd_tuple] at g; exact List.all_eq_true.mp g x hx
      refine bent k x p ?_ gx ?_
      · rcases hd with rfl | rfl <;> simp only [PyData.depth] at h <;> omega
      · rcases hd with rfl | rfl <;> simp only [PyData.weight] at hw <;> omega
    cases d with
    | list ds => exact bent_seq _ (.inl rfl) (sub ds (.inl rfl)) g hw p
    | tuple ds => exact bent_seq _ (.inr rfl) (sub ds (.inr rfl)) g hw p
    | _ => exact bent_flat _ rfl g p
/-! ### words -/
def Wds (n k : Nat) (L : List PyData) : Prop := L.length = n ∧ ∀ e ∈ L, ∃ ws, e = .tuple ws ∧ ws.length ≤ k
theorem words_in (S : Nat) (hS : S ≤ 9) (k : Nat) (hk : k ≤ 100) (sW f x z : Slot) (p : Pot) : ∀ (rest late : List PyData) (y : Slot), (∀ e ∈ rest, ∃ ws, e = .tuple ws ∧ ws.length ≤ k) → late.length + S * rest.length ≤ 1000000 →
    ∃ y' new, forL (.nm 5) (extS 4 (lcE (.nm 6) (rng1J (varE 0)) yesE (binE addW (varE 5) (tupE [(varE 6)])) [6])) rest [.sh (.int S), sW, f, x, .own (.list late), y, z] p = some (.nx [.sh (.int S), sW, f, x, .own (.list (late ++ new)), y', z] p) ∧ Wds (S * rest.length) (k + 1) new := by
  intro rest
  induction rest with
  | nil => exact fun late y _ _ => ⟨y, [], by rw [List.append_nil]; rfl, rfl, fun e h => nomatch h⟩
  | cons e rest ih =>
    intro late y he hl
    obtain ⟨ws, rfl, hw⟩ := he e (List.mem_cons_self ..)
    have hm : S * (rest.length + 1) = S * rest.length + S := Nat.mul_succ ..
    rw [List.length_cons, hm] at hl
    have c := compL_map (t := .nm 6) (fe := binE addW (varE 5) (tupE [(varE 6)])) (sl := [.sh (.int S), sW, f, x, .own (.list late), .sh (.tuple ws), .un]) (fun d => .tuple (ws ++ [d])) (rangeD 0 S)
      (fun d hd => ⟨_, rfl, fun p => ⟨.sh (.tuple (ws ++ [d])), by
        have l1 : ws.length + [d].length ≤ 16777216 := by simp only [List.length_cons, List.length_nil]; omega
        have l2 : ws.length ≤ 16777215 := by omega
        simp only [fillSl, List.length_cons, List.length_nil, List.replicate, List.cons_append, List.nil_append, List.getElem?_cons_zero, List.getElem?_cons_succ, List.set_cons_zero, List.set_cons_succ, Nat.reduceAdd, Nat.reduceSub, Nat.reduceLT, seqS, nxS, setS, dropS, retS, iteS, retV, asg, potS, potDivS, appS, extS, unpS, parS, asgPs, asgP, asgD, asgDs, calm, binE, unE, potE, constE, varE, andE, orE, notE, ifE, tupE, lstE, slE, optE, callE, callF, callKF, methE, isiE, argsE, argsOf, datsOf, resV, newT, newL, shq, shf_true, opF, cF, addV, mulV, ixV, slV, gtK, ltK, leK, geK, subK, addK, mulK, fdivK, modK, powK, intK, absK, isiB, Val.dat, Val.items, flat, flatA, isL, Bool.and_true, Bool.true_and, Bool.false_and, Bool.and_false, if_true, if_false, Bool.false_eq_true, Option.map_some, Option.map_none, Bool.not_true, Bool.not_false, decide_true, decide_false, reduceIte, reduceCtorEq, and_self, true_and, and_true, yesE_ap, sizeLine_eq, Nat.reduceLeDiff, frS, frzL, frz1, frzS, addW, subW, boolInt, revV, tupV, listV, isi2E, setIS, dnewE, get2E, listRgE, tupRgE, rg1R, rg2R, rg3R, eqP_int, eqP_str, neP_int, neP_str, Bool.true_or, Bool.false_or, Bool.or_true, Bool.or_false, Nat.reduceBEq, l1, l2], rfl⟩⟩) p
    have cl : ((rangeD 0 S).map fun d => PyData.tuple (ws ++ [d])).length = S := by rw [List.length_map, rng_len]
    obtain ⟨y', new, e, q1, q2⟩ := ih (late ++ (rangeD 0 S).map fun d => PyData.tuple (ws ++ [d])) (.sh (.tuple ws)) (fun e h => he e (List.mem_cons_of_mem _ h)) (by rw [List.length_append, cl]; omega)
    refine ⟨y', ((rangeD 0 S).map fun d => PyData.tuple (ws ++ [d])) ++ new, ?_, ?_, ?_⟩
    · have hr : sm62 (S : Int) = true := sm62_nat (by omega)
      have l3 : late.length + S ≤ 16777216 := by omega
      have l4 : S ≤ 16777216 := by omega
      rw [List.append_assoc] at e
      unfold forL
      simp only [fillSl, List.length_cons, List.length_nil, List.replicate, List.cons_append, List.nil_append, List.getElem?_cons_zero, List.getElem?_cons_succ, List.set_cons_zero, List.set_cons_succ, Nat.reduceAdd, Nat.reduceSub, Nat.reduceLT, seqS, nxS, setS, dropS, retS, iteS, retV, asg, potS, potDivS, appS, extS, unpS, parS, asgPs, asgP, asgD, asgDs, calm, binE, unE, potE, constE, varE, andE, orE, notE, ifE, tupE, lstE, slE, optE, callE, callF, callKF, methE, isiE, argsE, argsOf, datsOf, resV, newT, newL, shq, shf_true, opF, cF, addV, mulV, ixV, slV, gtK, ltK, leK, geK, subK, addK, mulK, fdivK, modK, powK, intK, absK, isiB, Val.dat, Val.items, flat, flatA, isL, Bool.and_true, Bool.true_and, Bool.false_and, Bool.and_false, if_true, if_false, Bool.false_eq_true, Option.map_some, Option.map_none, Bool.not_true, Bool.not_false, decide_true, decide_false, reduceIte, reduceCtorEq, and_self, true_and, and_true, yesE_ap, sizeLine_eq, Nat.reduceLeDiff, frS, frzL, frz1, frzS, addW, subW, boolInt, revV, tupV, listV, isi2E, setIS, dnewE, get2E, listRgE, tupRgE, rg1R, rg2R, rg3R, eqP_int, eqP_str, neP_int, neP_str, Bool.true_or, Bool.false_or, Bool.or_true, Bool.or_false, Nat.reduceBEq, lcE, rng1J, hr, Int.toNat_natCast, wipeSl, c, cl, l3, l4]
      exact e
    · rw [List.length_append, cl, q1, List.length_cons, hm]; omega
    · intro e h
      rcases List.mem_append.mp h with h | h
      · obtain ⟨d, _, rfl⟩ := List.mem_map.mp h
        exact ⟨_, rfl, by rw [List.length_append]; simp only [List.length_cons, List.length_nil]; omega⟩
      · exact q2 e h
theorem words_step (S : Nat) (hS : S ≤ 9) (k : Nat) (hk : k ≤ 100) {L : List PyData} {n : Nat} (hL : Wds n k L) (hn : S * n ≤ 1000000) (s2 : Slot) (h2 : s2 = .sh (.list L) ∨ s2 = .own (.list L)) (sW x l y z : Slot) (p : Pot) :
    ∃ y' L', (seqS (setS 4 (lstE []))
    (seqS (forS (.nm 5) (itV (varE 2)) (extS 4 (lcE (.nm 6) (rng1J (varE 0)) yesE (binE addW (varE 5) (tupE [(varE 6)])) [6])))
    (setS 2 (varE 4)))) [.sh (.int S), sW, s2, x, l, y, z] p = some (.nx [.sh (.int S), sW, .sh (.list L'), x, .sh (.list L'), y', z] p) ∧ Wds (S * n) (k + 1) L' := by
  obtain ⟨y', new, e, q⟩ := words_in S hS k hk sW (.sh (.list L)) x z p L [] y hL.2 (by rw [hL.1]; simp only [List.length_nil]; omega)
  rw [List.nil_append] at e
  rw [hL.1] at q
  refine ⟨y', new, ?_, q⟩
  rcases h2 with rfl | rfl <;> simp only [fillSl, List.length_cons, List.length_nil, List.replicate, List.cons_append, List.nil_append, List.getElem?_cons_zero, List.getElem?_cons_succ, List.set_cons_zero, List.set_cons_succ, Nat.reduceAdd, Nat.reduceSub, Nat.reduceLT, seqS, nxS, setS, dropS, retS, iteS, retV, asg, potS, potDivS, appS, extS, unpS, parS, asgPs, asgP, asgD, asgDs, calm, binE, unE, potE, constE, varE, andE, orE, notE, ifE, tupE, lstE, slE, optE, callE, callF, callKF, methE, isiE, argsE, argsOf, datsOf, resV, newT, newL, shq, shf_true, opF, cF, addV, mulV, ixV, slV, gtK, ltK, leK, geK, subK, addK, mulK, fdivK, modK, powK, intK, absK, isiB, Val.dat, Val.items, flat, flatA, isL, Bool.and_true, Bool.true_and, Bool.false_and, Bool.and_false, if_true, if_false, Bool.false_eq_true, Option.map_some, Option.map_none, Bool.not_true, Bool.not_false, decide_true, decide_false, reduceIte, reduceCtorEq, and_self, true_and, and_true, yesE_ap, sizeLine_eq, Nat.reduceLeDiff, frS, frzL, frz1, frzS, addW, subW, boolInt, revV, tupV, listV, isi2E, setIS, dnewE, get2E, listRgE, tupRgE, rg1R, rg2R, rg3R, eqP_int, eqP_str, neP_int, neP_str, Bool.true_or, Bool.false_or, Bool.or_true, Bool.or_false, Nat.reduceBEq, forS, itV, seqD, Pu.calm, e]
theorem words_out (S : Nat) (hS : S ≤ 9) (sW : Slot) (p : Pot) : ∀ (m k : Nat) (ds : List PyData) {L : List PyData} (x l y z : Slot), ds.length = m → k + m ≤ 6 → Wds (S ^ k) k L →
    ∃ x' l' y' L', forL (.nm 3) (seqS (setS 4 (lstE []))
    (seqS (forS (.nm 5) (itV (varE 2)) (extS 4 (lcE (.nm 6) (rng1J (varE 0)) yesE (binE addW (varE 5) (tupE [(varE 6)])) [6])))
    (setS 2 (varE 4)))) ds [.sh (.int S), sW, .sh (.list L), x, l, y, z] p = some (.nx [.sh (.int S), sW, .sh (.list L'), x', l', y', z] p) ∧ Wds (S ^ (k + m)) (k + m) L' := by
  intro m
  induction m with
  | zero =>
    intro k ds L x l y z hd _ hL
    have : ds = [] := List.length_eq_zero_iff.mp hd
    subst this
    exact ⟨x, l, y, L, rfl, hL⟩
  | succ m ih =>
    intro k ds L x l y z hd hk hL
    match ds, hd with
    | d :: ds, hd =>
      have hp : S ^ (k + 1) ≤ 9 ^ 6 := Nat.le_trans (Nat.pow_le_pow_left hS _) (Nat.pow_le_pow_right (by decide) (by omega))
      have hp2 : (9 : Nat) ^ 6 = 531441 := by decide
      rw [Nat.pow_succ] at hp
      obtain ⟨y', L', e, hL'⟩ := words_step S hS k (by omega) hL (by rw [Nat.mul_comm]; omega) (.sh (.list L)) (.inl rfl) sW (.sh d) l y z p
      rw [Nat.mul_comm, ← Nat.pow_succ] at hL'
      obtain ⟨x2, l2, y2, L2, e2, h2⟩ := ih (k + 1) ds (.sh d) (.sh (.list L')) y' z (by simpa using hd) (by omega) hL'
      refine ⟨x2, l2, y2, L2, ?_, by rw [show k + (m + 1) = k + 1 + m by omega]; exact h2⟩
      generalize (seqS (setS 4 (lstE []))
    (seqS (forS (.nm 5) (itV (varE 2)) (extS 4 (lcE (.nm 6) (rng1J (varE 0)) yesE (binE addW (varE 5) (tupE [(varE 6)])) [6])))
    (setS 2 (varE 4)))) = B at *
      unfold forL
      simp only [fillSl, List.length_cons, List.length_nil, List.replicate, List.cons_append, List.nil_append, List.getElem?_cons_zero, List.getElem?_cons_succ, List.set_cons_zero, List.set_cons_succ, Nat.reduceAdd, Nat.reduceSub, Nat.reduceLT, seqS, nxS, setS, dropS, retS, iteS, retV, asg, potS, potDivS, appS, extS, unpS, parS, asgPs, asgP, asgD, asgDs, calm, binE, unE, potE, constE, varE, andE, orE, notE, ifE, tupE, lstE, slE, optE, callE, callF, callKF, methE, isiE, argsE, argsOf, datsOf, resV, newT, newL, shq, shf_true, opF, cF, addV, mulV, ixV, slV, gtK, ltK, leK, geK, subK, addK, mulK, fdivK, modK, powK, intK, absK, isiB, Val.dat, Val.items, flat, flatA, isL, Bool.and_true, Bool.true_and, Bool.false_and, Bool.and_false, if_true, if_false, Bool.false_eq_true, Option.map_some, Option.map_none, Bool.not_true, Bool.not_false, decide_true, decide_false, reduceIte, reduceCtorEq, and_self, true_and, and_true, yesE_ap, sizeLine_eq, Nat.reduceLeDiff, frS, frzL, frz1, frzS, addW, subW, boolInt, revV, tupV, listV, isi2E, setIS, dnewE, get2E, listRgE, tupRgE, rg1R, rg2R, rg3R, eqP_int, eqP_str, neP_int, neP_str, Bool.true_or, Bool.false_or, Bool.or_true, Bool.or_false, Nat.reduceBEq, asgD, e, e2]
theorem law_words (S W : Nat) (hS : S ≤ 9) (hW : 1 ≤ W) (hW6 : W ≤ 6) (p : Pot) : ∃ L, F_law_words [.sh (.int S), .sh (.int W)] p = some (.sh (.list L), p) ∧ L.length = S ^ W := by
  obtain ⟨d, ds, hr⟩ : ∃ d ds, rangeD 0 W = d :: ds := by
    match h : rangeD 0 W with
    | [] => have := rng_len 0 W; rw [h] at this; simp at this; omega
    | d :: ds => exact ⟨d, ds, rfl⟩
  have hl : ds.length = W - 1 := by
    have := rng_len 0 W
    rw [hr] at this
    simp at this
    omega
  have h0 : Wds 1 0 [PyData.tuple []] := ⟨rfl, fun e h => ⟨[], List.mem_singleton.mp h, Nat.le_refl _⟩⟩
  obtain ⟨y', L', e, hL'⟩ := words_step S hS 0 (by decide) h0 (by omega) (.own (.list [.tuple []])) (.inr rfl) (.sh (.int W)) (.sh d) .un .un .un p
  have h1 : Wds (S ^ 1) 1 L' := by rw [Nat.pow_one]; simpa using hL'
  obtain ⟨x2, l2, y2, L2, e2, h2⟩ := words_out S hS (.sh (.int W)) p (W - 1) 1 ds (.sh d) (.sh (.list L')) y' .un hl (by omega) h1
  have hw : sm62 (W : Int) = true := sm62_nat (by omega)
  refine ⟨L2, ?_, by rw [show 1 + (W - 1) = W by omega] at h2; exact h2.1⟩
  unfold F_law_words B_law_words defF
  generalize (seqS (setS 4 (lstE []))
    (seqS (forS (.nm 5) (itV (varE 2)) (extS 4 (lcE (.nm 6) (rng1J (varE 0)) yesE (binE addW (varE 5) (tupE [(varE 6)])) [6])))
    (setS 2 (varE 4)))) = B at *
  simp only [fillSl, List.length_cons, List.length_nil, List.replicate, List.cons_append, List.nil_append, List.getElem?_cons_zero, List.getElem?_cons_succ, List.set_cons_zero, List.set_cons_succ, Nat.reduceAdd, Nat.reduceSub, Nat.reduceLT, seqS, nxS, setS, dropS, retS, iteS, retV, asg, potS, potDivS, appS, extS, unpS, parS, asgPs, asgP, asgD, asgDs, calm, binE, unE, potE, constE, varE, andE, orE, notE, ifE, tupE, lstE, slE, optE, callE, callF, callKF, methE, isiE, argsE, argsOf, datsOf, resV, newT, newL, shq, shf_true, opF, cF, addV, mulV, ixV, slV, gtK, ltK, leK, geK, subK, addK, mulK, fdivK, modK, powK, intK, absK, isiB, Val.dat, Val.items, flat, flatA, isL, Bool.and_true, Bool.true_and, Bool.false_and, Bool.and_false, if_true, if_false, Bool.false_eq_true, Option.map_some, Option.map_none, Bool.not_true, Bool.not_false, decide_true, decide_false, reduceIte, reduceCtorEq, and_self, true_and, and_true, yesE_ap, sizeLine_eq, Nat.reduceLeDiff, frS, frzL, frz1, frzS, addW, subW, boolInt, revV, tupV, listV, isi2E, setIS, dnewE, get2E, listRgE, tupRgE, rg1R, rg2R, rg3R, eqP_int, eqP_str, neP_int, neP_str, Bool.true_or, Bool.false_or, Bool.or_true, Bool.or_false, Nat.reduceBEq, forS, rng1I, hw, Int.toNat_natCast, hr, forL, asgD, e, e2]
end K94

namespace K94
open PySem PySem.Spec PyProof.Rows L2 Pu
/-! ### cuts drawn -/
theorem cut_turn (m a : Int) (hm : sm64 m = true) (cs : List PyData) (hl : cs.length ≤ 100) (p : Pot) (s1 s2 s3 s4 s5 s9 s10 s11 s12 s13 s14 s15 s16 s17 s18 : Slot) : ∃ d p', 0 ≤ d ∧ d < 3 ∧
    (seqS (appS 8 (varE 7))
    (setS 7 (binE addW (binE addW (varE 7) (varE 6)) (callF F_law_draw [(varE 0), (constE (.int 3))])))) [.pot, s1, s2, s3, s4, s5, .sh (.int m), .sh (.int a), .own (.list cs), s9, s10, s11, s12, s13, s14, s15, s16, s17, s18] p =
      some (.nx [.pot, s1, s2, s3, s4, s5, .sh (.int m), .sh (.int (a + m + d)), .own (.list (cs ++ [.int a])), s9, s10, s11, s12, s13, s14, s15, s16, s17, s18] p') := by
  obtain ⟨d, p', e, d0, d1⟩ := draw p 3 (by decide) (by decide)
  have l1 : cs.length < 16777216 := by omega
  refine ⟨d, p', d0, d1, ?_⟩
  simp only [fillSl, List.length_cons, List.length_nil, List.replicate, List.cons_append, List.nil_append, List.getElem?_cons_zero, List.getElem?_cons_succ, List.set_cons_zero, List.set_cons_succ, Nat.reduceAdd, Nat.reduceSub, Nat.reduceLT, seqS, nxS, setS, dropS, retS, iteS, retV, asg, potS, potDivS, appS, extS, unpS, parS, asgPs, asgP, asgD, asgDs, calm, binE, unE, potE, constE, varE, andE, orE, notE, ifE, tupE, lstE, slE, optE, callE, callF, callKF, methE, isiE, argsE, argsOf, datsOf, resV, newT, newL, shq, shf_true, opF, cF, addV, mulV, ixV, slV, gtK, ltK, leK, geK, subK, addK, mulK, fdivK, modK, powK, intK, absK, isiB, Val.dat, Val.items, flat, flatA, isL, Bool.and_true, Bool.true_and, Bool.false_and, Bool.and_false, if_true, if_false, Bool.false_eq_true, Option.map_some, Option.map_none, Bool.not_true, Bool.not_false, decide_true, decide_false, reduceIte, reduceCtorEq, and_self, true_and, and_true, yesE_ap, sizeLine_eq, Nat.reduceLeDiff, frS, frzL, frz1, frzS, addW, subW, boolInt, revV, tupV, listV, isi2E, setIS, dnewE, get2E, listRgE, tupRgE, rg1R, rg2R, rg3R, eqP_int, eqP_str, neP_int, neP_str, Bool.true_or, Bool.false_or, Bool.or_true, Bool.or_false, Nat.reduceBEq, Pu.calm, l1, e]
/-- cuts with gaps of m -/
structure Cuts (m : Int) (cs : List PyData) : Prop where
  n1 : 1 ≤ cs.length
  n4 : cs.length ≤ 4
  ok : cutsL m cs = true
  ai : ∃ ns : List Int, cs = ns.map .int ∧ ∀ i ∈ ns, i.natAbs ≤ 100
theorem cuts1 {m a : Int} (h : -4 ≤ a ∧ a ≤ 4) : Cuts m [.int a] := by
  refine ⟨by simp, by simp, ?_, [a], rfl, ?_⟩
  · unfold cutsL
    rw [show pairs [.int a] = [] from rfl]
    simp only [List.length_cons, List.length_nil, List.all_cons, List.all_nil, wh, gapB, Bool.and_eq_true, decide_eq_true_eq, and_true]
    omega
  · simp only [List.mem_cons, List.not_mem_nil, or_false]
    intro i h; subst h; omega
theorem cuts2 {m a b : Int} (h : -4 ≤ a ∧ a ≤ 4) (hm : 1 ≤ m ∧ m ≤ 9) (hb : a + m ≤ b ∧ b ≤ a + m + 2) : Cuts m [.int a, .int b] := by
  refine ⟨by simp, by simp, ?_, [a, b], rfl, ?_⟩
  · unfold cutsL
    rw [show pairs [.int a, .int b] = [.tuple [.int a, .int b]] from rfl]
    simp only [List.length_cons, List.length_nil, List.all_cons, List.all_nil, wh, gapB, Bool.and_eq_true, decide_eq_true_eq, and_true]
    omega
  · simp only [List.mem_cons, List.not_mem_nil, or_false]
    rintro i (h | h) <;> subst h <;> omega
theorem cuts3 {m a b c : Int} (h : -4 ≤ a ∧ a ≤ 4) (hm : 1 ≤ m ∧ m ≤ 9) (hb : a + m ≤ b ∧ b ≤ a + m + 2) (hc : b + m ≤ c ∧ c ≤ b + m + 2) : Cuts m [.int a, .int b, .int c] := by
  refine ⟨by simp, by simp, ?_, [a, b, c], rfl, ?_⟩
  · unfold cutsL
    rw [show pairs [.int a, .int b, .int c] = [.tuple [.int a, .int b], .tuple [.int b, .int c]] from rfl]
    simp only [List.length_cons, List.length_nil, List.all_cons, List.all_nil, wh, gapB, Bool.and_eq_true, decide_eq_true_eq, and_true]
    omega
  · simp only [List.mem_cons, List.not_mem_nil, or_false]
    rintro i (h | h | h) <;> subst h <;> omega
theorem cuts4 {m a b c d : Int} (h : -4 ≤ a ∧ a ≤ 4) (hm : 1 ≤ m ∧ m ≤ 9) (hb : a + m ≤ b ∧ b ≤ a + m + 2) (hc : b + m ≤ c ∧ c ≤ b + m + 2) (hd : c + m ≤ d ∧ d ≤ c + m + 2) : Cuts m [.int a, .int b, .int c, .int d] := by
  refine ⟨by simp, by simp, ?_, [a, b, c, d], rfl, ?_⟩
  · unfold cutsL
    rw [show pairs [.int a, .int b, .int c, .int d] = [.tuple [.int a, .int b], .tuple [.int b, .int c], .tuple [.int c, .int d]] from rfl]
    simp only [List.length_cons, List.length_nil, List.all_cons, List.all_nil, wh, gapB, Bool.and_eq_true, decide_eq_true_eq, and_true]
    omega
  · simp only [List.mem_cons, List.not_mem_nil, or_false]
    rintro i (h | h | h | h) <;> subst h <;> omega
theorem cuts_loop (m a : Int) (hm : 1 ≤ m ∧ m ≤ 9) (ha : -4 ≤ a ∧ a ≤ 4) (n : Int) (hn : 1 ≤ n ∧ n ≤ 4) (p : Pot) (s1 s2 s3 s4 s5 s9 s10 s11 s12 s13 s14 s15 s16 s17 s18 : Slot) : ∃ cs a' t p', Cuts m cs ∧
    forL (.nm 9) (seqS (appS 8 (varE 7))
    (setS 7 (binE addW (binE addW (varE 7) (varE 6)) (callF F_law_draw [(varE 0), (constE (.int 3))])))) (rangeD 0 n.toNat) [.pot, s1, s2, s3, s4, s5, .sh (.int m), .sh (.int a), .own (.list []), s9, s10, s11, s12, s13, s14, s15, s16, s17, s18] p =
      some (.nx [.pot, s1, s2, s3, s4, s5, .sh (.int m), a', .own (.list cs), t, s10, s11, s12, s13, s14, s15, s16, s17, s18] p') := by
  have hs : sm64 m = true := sm64_iff.mpr ⟨by omega, by omega⟩
  obtain ⟨d1, p1, x0, x1, e1⟩ := cut_turn m a hs [] (by decide) p s1 s2 s3 s4 s5 (.sh (.int 0)) s10 s11 s12 s13 s14 s15 s16 s17 s18
  obtain ⟨d2, p2, y0, y1, e2⟩ := cut_turn m (a + m + d1) hs [.int a] (by simp) p1 s1 s2 s3 s4 s5 (.sh (.int 1)) s10 s11 s12 s13 s14 s15 s16 s17 s18
  obtain ⟨d3, p3, z0, z1, e3⟩ := cut_turn m (a + m + d1 + m + d2) hs [.int a, .int (a + m + d1)] (by simp) p2 s1 s2 s3 s4 s5 (.sh (.int 2)) s10 s11 s12 s13 s14 s15 s16 s17 s18
  obtain ⟨d4, p4, w0, w1, e4⟩ := cut_turn m (a + m + d1 + m + d2 + m + d3) hs [.int a, .int (a + m + d1), .int (a + m + d1 + m + d2)] (by simp) p3 s1 s2 s3 s4 s5 (.sh (.int 3)) s10 s11 s12 s13 s14 s15 s16 s17 s18
  simp only [List.nil_append, List.cons_append] at e1 e2 e3 e4
  generalize (seqS (appS 8 (varE 7))
    (setS 7 (binE addW (binE addW (varE 7) (varE 6)) (callF F_law_draw [(varE 0), (constE (.int 3))])))) = B at *
  have hcases : n = 1 ∨ n = 2 ∨ n = 3 ∨ n = 4 := by omega
  rcases hcases with rfl | rfl | rfl | rfl
  · refine ⟨_, .sh (.int (a + m + d1)), .sh (.int 0), p1, cuts1 ha, ?_⟩
    rw [show rangeD 0 (1 : Int).toNat = [.int 0] from rfl]
    unfold forL
    simp only [fillSl, List.length_cons, List.length_nil, List.replicate, List.cons_append, List.nil_append, List.getElem?_cons_zero, List.getElem?_cons_succ, List.set_cons_zero, List.set_cons_succ, Nat.reduceAdd, Nat.reduceSub, Nat.reduceLT, seqS, nxS, setS, dropS, retS, iteS, retV, asg, potS, potDivS, appS, extS, unpS, parS, asgPs, asgP, asgD, asgDs, calm, binE, unE, potE, constE, varE, andE, orE, notE, ifE, tupE, lstE, slE, optE, callE, callF, callKF, methE, isiE, argsE, argsOf, datsOf, resV, newT, newL, shq, shf_true, opF, cF, addV, mulV, ixV, slV, gtK, ltK, leK, geK, subK, addK, mulK, fdivK, modK, powK, intK, absK, isiB, Val.dat, Val.items, flat, flatA, isL, Bool.and_true, Bool.true_and, Bool.false_and, Bool.and_false, if_true, if_false, Bool.false_eq_true, Option.map_some, Option.map_none, Bool.not_true, Bool.not_false, decide_true, decide_false, reduceIte, reduceCtorEq, and_self, true_and, and_true, yesE_ap, sizeLine_eq, Nat.reduceLeDiff, frS, frzL, frz1, frzS, addW, subW, boolInt, revV, tupV, listV, isi2E, setIS, dnewE, get2E, listRgE, tupRgE, rg1R, rg2R, rg3R, eqP_int, eqP_str, neP_int, neP_str, Bool.true_or, Bool.false_or, Bool.or_true, Bool.or_false, Nat.reduceBEq, asgD, forL, e1]
  · refine ⟨[.int a, .int (a + m + d1)], .sh (.int (a + m + d1 + m + d2)), .sh (.int 1), p2, cuts2 ha hm ⟨?_, ?_⟩, ?_⟩
    case refine_3 =>
      rw [show rangeD 0 (2 : Int).toNat = [.int 0, .int 1] from rfl]
      simp only [fillSl, List.length_cons, List.length_nil, List.replicate, List.cons_append, List.nil_append, List.getElem?_cons_zero, List.getElem?_cons_succ, List.set_cons_zero, List.set_cons_succ, Nat.reduceAdd, Nat.reduceSub, Nat.reduceLT, seqS, nxS, setS, dropS, retS, iteS, retV, asg, potS, potDivS, appS, extS, unpS, parS, asgPs, asgP, asgD, asgDs, calm, binE, unE, potE, constE, varE, andE, orE, notE, ifE, tupE, lstE, slE, optE, callE, callF, callKF, methE, isiE, argsE, argsOf, datsOf, resV, newT, newL, shq, shf_true, opF, cF, addV, mulV, ixV, slV, gtK, ltK, leK, geK, subK, addK, mulK, fdivK, modK, powK, intK, absK, isiB, Val.dat, Val.items, flat, flatA, isL, Bool.and_true, Bool.true_and, Bool.false_and, Bool.and_false, if_true, if_false, Bool.false_eq_true, Option.map_some, Option.map_none, Bool.not_true, Bool.not_false, decide_true, decide_false, reduceIte, reduceCtorEq, and_self, true_and, and_true, yesE_ap, sizeLine_eq, Nat.reduceLeDiff, frS, frzL, frz1, frzS, addW, subW, boolInt, revV, tupV, listV, isi2E, setIS, dnewE, get2E, listRgE, tupRgE, rg1R, rg2R, rg3R, eqP_int, eqP_str, neP_int, neP_str, Bool.true_or, Bool.false_or, Bool.or_true, Bool.or_false, Nat.reduceBEq, asgD, forL, e1, e2]
    all_goals omega
  · refine ⟨[.int a, .int (a + m + d1), .int (a + m + d1 + m + d2)], .sh (.int (a + m + d1 + m + d2 + m + d3)), .sh (.int 2), p3, cuts3 ha hm ⟨?_, ?_⟩ ⟨?_, ?_⟩, ?_⟩
    case refine_5 =>
      rw [show rangeD 0 (3 : Int).toNat = [.int 0, .int 1, .int 2] from rfl]
      simp only [fillSl, List.length_cons, List.length_nil, List.replicate, List.cons_append, List.nil_append, List.getElem?_cons_zero, List.getElem?_cons_succ, List.set_cons_zero, List.set_cons_succ, Nat.reduceAdd, Nat.reduceSub, Nat.reduceLT, seqS, nxS, setS, dropS, retS, iteS, retV, asg, potS, potDivS, appS, extS, unpS, parS, asgPs, asgP, asgD, asgDs, calm, binE, unE, potE, constE, varE, andE, orE, notE, ifE, tupE, lstE, slE, optE, callE, callF, callKF, methE, isiE, argsE, argsOf, datsOf, resV, newT, newL, shq, shf_true, opF, cF, addV, mulV, ixV, slV, gtK, ltK, leK, geK, subK, addK, mulK, fdivK, modK, powK, intK, absK, isiB, Val.dat, Val.items, flat, flatA, isL, Bool.and_true, Bool.true_and, Bool.false_and, Bool.and_false, if_true, if_false, Bool.false_eq_true, Option.map_some, Option.map_none, Bool.not_true, Bool.not_false, decide_true, decide_false, reduceIte, reduceCtorEq, and_self, true_and, and_true, yesE_ap, sizeLine_eq, Nat.reduceLeDiff, frS, frzL, frz1, frzS, addW, subW, boolInt, revV, tupV, listV, isi2E, setIS, dnewE, get2E, listRgE, tupRgE, rg1R, rg2R, rg3R, eqP_int, eqP_str, neP_int, neP_str, Bool.true_or, Bool.false_or, Bool.or_true, Bool.or_false, Nat.reduceBEq, asgD, forL, e1, e2, e3]
    all_goals omega
  · refine ⟨[.int a, .int (a + m + d1), .int (a + m + d1 + m + d2), .int (a + m + d1 + m + d2 + m + d3)], .sh (.int (a + m + d1 + m + d2 + m + d3 + m + d4)), .sh (.int 3), p4, cuts4 ha hm ⟨?_, ?_⟩ ⟨?_, ?_⟩ ⟨?_, ?_⟩, ?_⟩
    case refine_7 =>
      rw [show rangeD 0 (4 : Int).toNat = [.int 0, .int 1, .int 2, .int 3] from rfl]
      simp only [fillSl, List.length_cons, List.length_nil, List.replicate, List.cons_append, List.nil_append, List.getElem?_cons_zero, List.getElem?_cons_succ, List.set_cons_zero, List.set_cons_succ, Nat.reduceAdd, Nat.reduceSub, Nat.reduceLT, seqS, nxS, setS, dropS, retS, iteS, retV, asg, potS, potDivS, appS, extS, unpS, parS, asgPs, asgP, asgD, asgDs, calm, binE, unE, potE, constE, varE, andE, orE, notE, ifE, tupE, lstE, slE, optE, callE, callF, callKF, methE, isiE, argsE, argsOf, datsOf, resV, newT, newL, shq, shf_true, opF, cF, addV, mulV, ixV, slV, gtK, ltK, leK, geK, subK, addK, mulK, fdivK, modK, powK, intK, absK, isiB, Val.dat, Val.items, flat, flatA, isL, Bool.and_true, Bool.true_and, Bool.false_and, Bool.and_false, if_true, if_false, Bool.false_eq_true, Option.map_some, Option.map_none, Bool.not_true, Bool.not_false, decide_true, decide_false, reduceIte, reduceCtorEq, and_self, true_and, and_true, yesE_ap, sizeLine_eq, Nat.reduceLeDiff, frS, frzL, frz1, frzS, addW, subW, boolInt, revV, tupV, listV, isi2E, setIS, dnewE, get2E, listRgE, tupRgE, rg1R, rg2R, rg3R, eqP_int, eqP_str, neP_int, neP_str, Bool.true_or, Bool.false_or, Bool.or_true, Bool.or_false, Nat.reduceBEq, asgD, forL, e1, e2, e3, e4]
    all_goals omega
end K94

namespace K94
open PySem PySem.Spec PyProof.Rows L2 Pu
/-! ### what is asked of each value -/
abbrev Vok (d : PyData) : Prop := Fit 5001 200000 20 d
theorem repr_ok {d : PyData} (h : reprOk2 d) : repr2K [d] = some (.str d.shown) := by
  show (if reprOk2 d then some (PyData.str d.shown) else none) = _
  rw [if_pos h]
theorem Vok.repr {d : PyData} (h : Vok d) : reprOk2 d := gd_repr (m := 5001) (by decide) h.g (by have := h.t; omega) (by have := h.w; omega)
theorem bools_repr (a b : Bool) : reprOk2 (.list [.bool a, .bool b]) := gd_repr (m := 5001) (by decide) (by rfl) (by simp only [PyData.depth, PyData.depthAll]; decide) (by simp only [PyData.weight, PyData.weightAll]; decide)
theorem Vok.len {d : PyData} (h : Vok d) {ds : List PyData} (e : d = .list ds ∨ d = .tuple ds) : ds.length ≤ 16777216 := by
  have a := wA_len ds
  have b := h.w
  rcases e with rfl | rfl <;> simp only [PyData.weight] at b <;> omega
theorem Vok.len5 {d : PyData} (h : Vok d) : ∀ z a b c ds, d = .tuple [z, a, b, c, .tuple ds] → ds.length ≤ 16777216 := fun z a b c ds e => by
  have a' := wA_len ds
  have b' := h.w
  subst e
  simp only [PyData.weight, PyData.weightAll] at b'
  omega
theorem eq1 (s : Str) : decide (s = s) = true := decide_eq_true rfl
section
variable {S W : Nat} {low : Int} {tb : List PyData} (R : Rule S W low tb)
include R
theorem loop1 (p : Pot) (s1 s2 s3 s6 s7 s8 s9 s10 s11 s15 s16 s17 s18 : Slot) : ∀ (vs : List PyData), (∀ d ∈ vs, Vok d) → ∀ s12 s13 s14 : Slot, ∃ a b c,
    forL (.nm 12) (seqS (parS [13, 14] [(callF F_law_is_cuts [(varE 5), (varE 12)]), (callE (cF repr2K) [(varE 12)])])
    (iteS (orE (binE (opF neP) (callE (cF repr2K) [(lstE [(callF F_is_cuts [(varE 4), (varE 12)]), (callKF F_is_cuts [1, 0] [(varE 12), (varE 4)])])]) (callE (cF repr2K) [(lstE [(varE 13), (varE 13)])])) (binE (opF neP) (callE (cF repr2K) [(varE 12)]) (varE 14))) (retS (constE (.bool false))) nxS)) vs [.pot, s1, s2, s3, .sh (rl S low tb), .sh (.tuple [.int (rm0 low), .int (rm1 W low)]), s6, s7, s8, s9, s10, s11, s12, s13, s14, s15, s16, s17, s18] p =
      some (.nx [.pot, s1, s2, s3, .sh (rl S low tb), .sh (.tuple [.int (rm0 low), .int (rm1 W low)]), s6, s7, s8, s9, s10, s11, a, b, c, s15, s16, s17, s18] p)
  | [], _, s12, s13, s14 => ⟨s12, s13, s14, rfl⟩
  | d :: vs, h, s12, s13, s14 => by
    have hd := h d (List.mem_cons_self ..)
    obtain ⟨a, b, c, e⟩ := loop1 p s1 s2 s3 s6 s7 s8 s9 s10 s11 s15 s16 s17 s18 vs (fun x hx => h x (List.mem_cons_of_mem _ hx)) (.sh d) (.sh (.bool (cutsB (leastM (rm0 low) (rm1 W low)) d))) (.sh (.str d.shown))
    refine ⟨a, b, c, ?_⟩
    have q1 := law_cuts d (rm0 low) (rm1 W low) p (fun ds e => hd.len e)
    have q2 := is_cuts R d p (fun ds e => hd.len e)
    have r1 := repr_ok hd.repr
    have r2 := fun x y => repr_ok (bools_repr x y)
    have d13 : ([] : List Slot).length = 0 := rfl
    generalize rl S low tb = x0 at *
    generalize cutsB (leastM (rm0 low) (rm1 W low)) d = u at *
    unfold forL
    simp only [fillSl, List.length_cons, List.length_nil, List.replicate, List.cons_append, List.nil_append, List.getElem?_cons_zero, List.getElem?_cons_succ, List.set_cons_zero, List.set_cons_succ, Nat.reduceAdd, Nat.reduceSub, Nat.reduceLT, seqS, nxS, setS, dropS, retS, iteS, retV, asg, potS, potDivS, appS, extS, unpS, parS, asgPs, asgP, asgD, asgDs, calm, binE, unE, potE, constE, varE, andE, orE, notE, ifE, tupE, lstE, slE, optE, callE, callF, callKF, methE, isiE, argsE, argsOf, datsOf, resV, newT, newL, shq, shf_true, opF, cF, addV, mulV, ixV, slV, gtK, ltK, leK, geK, subK, addK, mulK, fdivK, modK, powK, intK, absK, isiB, Val.dat, Val.items, flat, flatA, isL, Bool.and_true, Bool.true_and, Bool.false_and, Bool.and_false, if_true, if_false, Bool.false_eq_true, Option.map_some, Option.map_none, Bool.not_true, Bool.not_false, decide_true, decide_false, reduceIte, reduceCtorEq, and_self, true_and, and_true, yesE_ap, sizeLine_eq, Nat.reduceLeDiff, frS, frzL, frz1, frzS, addW, subW, boolInt, revV, tupV, listV, isi2E, setIS, dnewE, get2E, listRgE, tupRgE, rg1R, rg2R, rg3R, eqP_int, eqP_str, neP_int, neP_str, Bool.true_or, Bool.false_or, Bool.or_true, Bool.or_false, Nat.reduceBEq, asgD, q1, q2, r1, r2, perm, List.filterMap_cons, List.filterMap_nil, neP_str, eq1]
    exact e
end
theorem loop2 {S W : Nat} {low : Int} {tb : List PyData} (R : Rule S W low tb) (cs : List PyData) (hn : cs.length ≤ 8) (hc : cutsL (leastM (rm0 low) (rm1 W low)) cs = true) (p : Pot) (s2 s3 s6 s7 s9 s10 s11 s15 s16 s17 s18 : Slot) : ∀ (vs : List PyData), (∀ d ∈ vs, Vok d) → ∀ s12 s13 s14 : Slot, ∃ a b c,
    forL (.nm 12) (seqS (parS [13, 14] [(callF F_law_is_letter [(varE 1), (varE 5), (varE 8), (varE 12)]), (callE (cF repr2K) [(varE 12)])])
    (iteS (orE (binE (opF neP) (callE (cF repr2K) [(lstE [(callF F_is_letter [(varE 4), (varE 8), (varE 12)]), (callKF F_is_letter [2, 1, 0] [(varE 12), (varE 8), (varE 4)])])]) (callE (cF repr2K) [(lstE [(varE 13), (varE 13)])])) (binE (opF neP) (callE (cF repr2K) [(varE 12)]) (varE 14))) (retS (constE (.bool false))) nxS)) vs [.pot, .sh (.int S), s2, s3, .sh (rl S low tb), .sh (.tuple [.int (rm0 low), .int (rm1 W low)]), s6, s7, .sh (.list cs), s9, s10, s11, s12, s13, s14, s15, s16, s17, s18] p =
      some (.nx [.pot, .sh (.int S), s2, s3, .sh (rl S low tb), .sh (.tuple [.int (rm0 low), .int (rm1 W low)]), s6, s7, .sh (.list cs), s9, s10, s11, a, b, c, s15, s16, s17, s18] p)
  | [], _, s12, s13, s14 => ⟨s12, s13, s14, rfl⟩
  | d :: vs, h, s12, s13, s14 => by
    have hd := h d (List.mem_cons_self ..)
    obtain ⟨a, b, c, e⟩ := loop2 R cs hn hc p s2 s3 s6 s7 s9 s10 s11 s15 s16 s17 s18 vs (fun x hx => h x (List.mem_cons_of_mem _ hx)) (.sh d) (.sh (.bool (letB S (rm0 low) (rm1 W low) cs.length d))) (.sh (.str d.shown))
    refine ⟨a, b, c, ?_⟩
    have q1 := law_letter (S : Int) (rm0 low) (rm1 W low) cs p d hd.len5
    have q2 := is_letter R cs hn hc p d hd.len5
    have r1 := repr_ok hd.repr
    have r2 := fun x y => repr_ok (bools_repr x y)
    generalize rl S low tb = x0 at *
    generalize letB S (rm0 low) (rm1 W low) cs.length d = u at *
    unfold forL
    simp only [fillSl, List.length_cons, List.length_nil, List.replicate, List.cons_append, List.nil_append, List.getElem?_cons_zero, List.getElem?_cons_succ, List.set_cons_zero, List.set_cons_succ, Nat.reduceAdd, Nat.reduceSub, Nat.reduceLT, seqS, nxS, setS, dropS, retS, iteS, retV, asg, potS, potDivS, appS, extS, unpS, parS, asgPs, asgP, asgD, asgDs, calm, binE, unE, potE, constE, varE, andE, orE, notE, ifE, tupE, lstE, slE, optE, callE, callF, callKF, methE, isiE, argsE, argsOf, datsOf, resV, newT, newL, shq, shf_true, opF, cF, addV, mulV, ixV, slV, gtK, ltK, leK, geK, subK, addK, mulK, fdivK, modK, powK, intK, absK, isiB, Val.dat, Val.items, flat, flatA, isL, Bool.and_true, Bool.true_and, Bool.false_and, Bool.and_false, if_true, if_false, Bool.false_eq_true, Option.map_some, Option.map_none, Bool.not_true, Bool.not_false, decide_true, decide_false, reduceIte, reduceCtorEq, and_self, true_and, and_true, yesE_ap, sizeLine_eq, Nat.reduceLeDiff, frS, frzL, frz1, frzS, addW, subW, boolInt, revV, tupV, listV, isi2E, setIS, dnewE, get2E, listRgE, tupRgE, rg1R, rg2R, rg3R, eqP_int, eqP_str, neP_int, neP_str, Bool.true_or, Bool.false_or, Bool.or_true, Bool.or_false, Nat.reduceBEq, asgD, q1, q2, r1, r2, perm, List.filterMap_cons, List.filterMap_nil, neP_str, eq1]
    exact e
theorem loop3 {S W : Nat} {low : Int} {tb : List PyData} (R : Rule S W low tb) (cs : List PyData) (hn : cs.length ≤ 8) (hc : cutsL (leastM (rm0 low) (rm1 W low)) cs = true) (p : Pot) (s1 s2 s3 s5 s6 s7 s9 s10 s11 s15 s16 s17 s18 : Slot) : ∀ (vs : List PyData), (∀ d ∈ vs, Vok d) → ∀ s12 s13 s14 : Slot, ∃ a b c,
    forL (.nm 12) (seqS (parS [13, 14] [(callF F_law_is_schedule [(varE 8), (varE 12)]), (callE (cF repr2K) [(varE 12)])])
    (iteS (orE (binE (opF neP) (callE (cF repr2K) [(lstE [(callF F_is_schedule [(varE 4), (varE 8), (varE 12)]), (callKF F_is_schedule [2, 1, 0] [(varE 12), (varE 8), (varE 4)])])]) (callE (cF repr2K) [(lstE [(varE 13), (varE 13)])])) (binE (opF neP) (callE (cF repr2K) [(varE 12)]) (varE 14))) (retS (constE (.bool false))) nxS)) vs [.pot, s1, s2, s3, .sh (rl S low tb), s5, s6, s7, .sh (.list cs), s9, s10, s11, s12, s13, s14, s15, s16, s17, s18] p =
      some (.nx [.pot, s1, s2, s3, .sh (rl S low tb), s5, s6, s7, .sh (.list cs), s9, s10, s11, a, b, c, s15, s16, s17, s18] p)
  | [], _, s12, s13, s14 => ⟨s12, s13, s14, rfl⟩
  | d :: vs, h, s12, s13, s14 => by
    have hd := h d (List.mem_cons_self ..)
    obtain ⟨a, b, c, e⟩ := loop3 R cs hn hc p s1 s2 s3 s5 s6 s7 s9 s10 s11 s15 s16 s17 s18 vs (fun x hx => h x (List.mem_cons_of_mem _ hx)) (.sh d) (.sh (.bool (schedB cs.length d))) (.sh (.str d.shown))
    refine ⟨a, b, c, ?_⟩
    have q1 := law_sched cs p d (fun ds e => hd.len e)
    have q2 := is_schedule R cs hn hc p d (fun ds e => hd.len e)
    have r1 := repr_ok hd.repr
    have r2 := fun x y => repr_ok (bools_repr x y)
    generalize rl S low tb = x0 at *
    generalize schedB cs.length d = u at *
    unfold forL
    simp only [fillSl, List.length_cons, List.length_nil, List.replicate, List.cons_append, List.nil_append, List.getElem?_cons_zero, List.getElem?_cons_succ, List.set_cons_zero, List.set_cons_succ, Nat.reduceAdd, Nat.reduceSub, Nat.reduceLT, seqS, nxS, setS, dropS, retS, iteS, retV, asg, potS, potDivS, appS, extS, unpS, parS, asgPs, asgP, asgD, asgDs, calm, binE, unE, potE, constE, varE, andE, orE, notE, ifE, tupE, lstE, slE, optE, callE, callF, callKF, methE, isiE, argsE, argsOf, datsOf, resV, newT, newL, shq, shf_true, opF, cF, addV, mulV, ixV, slV, gtK, ltK, leK, geK, subK, addK, mulK, fdivK, modK, powK, intK, absK, isiB, Val.dat, Val.items, flat, flatA, isL, Bool.and_true, Bool.true_and, Bool.false_and, Bool.and_false, if_true, if_false, Bool.false_eq_true, Option.map_some, Option.map_none, Bool.not_true, Bool.not_false, decide_true, decide_false, reduceIte, reduceCtorEq, and_self, true_and, and_true, yesE_ap, sizeLine_eq, Nat.reduceLeDiff, frS, frzL, frz1, frzS, addW, subW, boolInt, revV, tupV, listV, isi2E, setIS, dnewE, get2E, listRgE, tupRgE, rg1R, rg2R, rg3R, eqP_int, eqP_str, neP_int, neP_str, Bool.true_or, Bool.false_or, Bool.or_true, Bool.or_false, Nat.reduceBEq, asgD, q1, q2, r1, r2, perm, List.filterMap_cons, List.filterMap_nil, neP_str, eq1]
    exact e
end K94

namespace K94
open PySem PySem.Spec PyProof.Rows L2 Pu
theorem seq_nx {s t : Sm} {sl sl1 : Sl} {p p1 : Pot} (h : s sl p = some (.nx sl1 p1)) : seqS s t sl p = t sl1 p1 := by
  unfold seqS
  rw [h]

theorem part1 (p : Pot) : ∃ (S W : Nat) (low : Int) (p' : Pot), (S = 2 ∨ S = 3) ∧ (W = 1 ∨ W = 2 ∨ W = 3) ∧ -4 ≤ low ∧ low ≤ 1 ∧ (parS [1, 2, 3] [(binE addW (constE (.int 2)) (callF F_law_draw [(varE 0), (constE (.int 2))])), (binE subW (callF F_law_draw [(varE 0), (constE (.int 6))]) (constE (.int 4))), (binE addW (constE (.int 1)) (callF F_law_draw [(varE 0), (constE (.int 3))]))]) [.pot, .un, .un, .un, .un, .un, .un, .un, .un, .un, .un, .un, .un, .un, .un, .un, .un, .un, .un] p = some (.nx [.pot, .sh (.int S), .sh (.int low), .sh (.int W), .un, .un, .un, .un, .un, .un, .un, .un, .un, .un, .un, .un, .un, .un, .un] p') := by
  obtain ⟨d0, p1, e0, x0, x1⟩ := draw p 2 (by decide) (by decide)
  obtain ⟨d1, p2, e1, y0, y1⟩ := draw p1 6 (by decide) (by decide)
  obtain ⟨d2, p3, e2, z0, z1⟩ := draw p2 3 (by decide) (by decide)
  refine ⟨(2 + d0).toNat, (1 + d2).toNat, d1 - 4, p3, by omega, by omega, by omega, by omega, ?_⟩
  have hS : ((2 + d0).toNat : Int) = 2 + d0 := by omega
  have hW : ((1 + d2).toNat : Int) = 1 + d2 := by omega
  rw [hS, hW]
  simp only [fillSl, List.length_cons, List.length_nil, List.replicate, List.cons_append, List.nil_append, List.getElem?_cons_zero, List.getElem?_cons_succ, List.set_cons_zero, List.set_cons_succ, Nat.reduceAdd, Nat.reduceSub, Nat.reduceLT, seqS, nxS, setS, dropS, retS, iteS, retV, asg, potS, potDivS, appS, extS, unpS, parS, asgPs, asgP, asgD, asgDs, calm, binE, unE, potE, constE, varE, andE, orE, notE, ifE, tupE, lstE, slE, optE, callE, callF, callKF, methE, isiE, argsE, argsOf, datsOf, resV, newT, newL, shq, shf_true, opF, cF, addV, mulV, ixV, slV, gtK, ltK, leK, geK, subK, addK, mulK, fdivK, modK, powK, intK, absK, isiB, Val.dat, Val.items, flat, flatA, isL, Bool.and_true, Bool.true_and, Bool.false_and, Bool.and_false, if_true, if_false, Bool.false_eq_true, Option.map_some, Option.map_none, Bool.not_true, Bool.not_false, decide_true, decide_false, reduceIte, reduceCtorEq, and_self, true_and, and_true, yesE_ap, sizeLine_eq, Nat.reduceLeDiff, frS, frzL, frz1, frzS, addW, subW, boolInt, revV, tupV, listV, isi2E, setIS, dnewE, get2E, listRgE, tupRgE, rg1R, rg2R, rg3R, eqP_int, eqP_str, neP_int, neP_str, Bool.true_or, Bool.false_or, Bool.or_true, Bool.or_false, Nat.reduceBEq, asgPs, asgP, e0, e1, e2]

theorem part2 {S W : Nat} {low : Int} (hS : S = 2 ∨ S = 3) (hW : W = 1 ∨ W = 2 ∨ W = 3) (h0 : -4 ≤ low) (h1 : low ≤ 1) (p : Pot) : ∃ tb p', Rule S W low tb ∧ (frS [1] (setS 4 (tupE [(constE (.str "rule")), (varE 1), (varE 2), (callE tupV [(lcE (.nm 18) (itJ (callF F_law_words [(varE 1), (varE 3)])) yesE (callF F_law_draw [(varE 0), (varE 1)]) [18])])]))) [.pot, .sh (.int S), .sh (.int low), .sh (.int W), .un, .un, .un, .un, .un, .un, .un, .un, .un, .un, .un, .un, .un, .un, .un] p = some (.nx [.pot, .sh (.int S), .sh (.int low), .sh (.int W), .sh (rl S low tb), .un, .un, .un, .un, .un, .un, .un, .un, .un, .un, .un, .un, .un, .un] p') := by
  obtain ⟨L, eL, lL⟩ := law_words S W (by omega) (by omega) (by omega) p
  have hp : S ^ W ≤ 27 := by
    rcases hS with rfl | rfl <;> rcases hW with rfl | rfl | rfl <;> decide
  obtain ⟨tb, p', et, tl, tw⟩ := compL_all (t := .nm 18) (fe := callF F_law_draw [(varE 0), (varE 1)]) (sl := [.pot, .sh (.int S), .sh (.int low), .sh (.int W), .un, .un, .un, .un, .un, .un, .un, .un, .un, .un, .un, .un, .un, .un, .un]) (C := fun e => wh e 0 ((S : Int) - 1) = true) L
    (fun d _ => ⟨_, rfl, fun p => by
      obtain ⟨d, p', e, x0, x1⟩ := draw p (S : Int) (by omega) (by omega)
      refine ⟨.sh (.int d), p', .int d, ?_, rfl, ?_⟩
      · simp only [fillSl, List.length_cons, List.length_nil, List.replicate, List.cons_append, List.nil_append, List.getElem?_cons_zero, List.getElem?_cons_succ, List.set_cons_zero, List.set_cons_succ, Nat.reduceAdd, Nat.reduceSub, Nat.reduceLT, seqS, nxS, setS, dropS, retS, iteS, retV, asg, potS, potDivS, appS, extS, unpS, parS, asgPs, asgP, asgD, asgDs, calm, binE, unE, potE, constE, varE, andE, orE, notE, ifE, tupE, lstE, slE, optE, callE, callF, callKF, methE, isiE, argsE, argsOf, datsOf, resV, newT, newL, shq, shf_true, opF, cF, addV, mulV, ixV, slV, gtK, ltK, leK, geK, subK, addK, mulK, fdivK, modK, powK, intK, absK, isiB, Val.dat, Val.items, flat, flatA, isL, Bool.and_true, Bool.true_and, Bool.false_and, Bool.and_false, if_true, if_false, Bool.false_eq_true, Option.map_some, Option.map_none, Bool.not_true, Bool.not_false, decide_true, decide_false, reduceIte, reduceCtorEq, and_self, true_and, and_true, yesE_ap, sizeLine_eq, Nat.reduceLeDiff, frS, frzL, frz1, frzS, addW, subW, boolInt, revV, tupV, listV, isi2E, setIS, dnewE, get2E, listRgE, tupRgE, rg1R, rg2R, rg3R, eqP_int, eqP_str, neP_int, neP_str, Bool.true_or, Bool.false_or, Bool.or_true, Bool.or_false, Nat.reduceBEq, e]
      · simp only [wh, Bool.and_eq_true, decide_eq_true_eq]
        omega⟩) p
  refine ⟨tb, p', ⟨by omega, by omega, by omega, by omega, by rw [tl, lL], by omega, by omega, by omega, List.all_eq_true.mpr tw⟩, ?_⟩
  have l1 : tb.length ≤ 16777216 := by rw [tl, lL]; omega
  unfold rl
  simp only [fillSl, List.length_cons, List.length_nil, List.replicate, List.cons_append, List.nil_append, List.getElem?_cons_zero, List.getElem?_cons_succ, List.set_cons_zero, List.set_cons_succ, Nat.reduceAdd, Nat.reduceSub, Nat.reduceLT, seqS, nxS, setS, dropS, retS, iteS, retV, asg, potS, potDivS, appS, extS, unpS, parS, asgPs, asgP, asgD, asgDs, calm, binE, unE, potE, constE, varE, andE, orE, notE, ifE, tupE, lstE, slE, optE, callE, callF, callKF, methE, isiE, argsE, argsOf, datsOf, resV, newT, newL, shq, shf_true, opF, cF, addV, mulV, ixV, slV, gtK, ltK, leK, geK, subK, addK, mulK, fdivK, modK, powK, intK, absK, isiB, Val.dat, Val.items, flat, flatA, isL, Bool.and_true, Bool.true_and, Bool.false_and, Bool.and_false, if_true, if_false, Bool.false_eq_true, Option.map_some, Option.map_none, Bool.not_true, Bool.not_false, decide_true, decide_false, reduceIte, reduceCtorEq, and_self, true_and, and_true, yesE_ap, sizeLine_eq, Nat.reduceLeDiff, frS, frzL, frz1, frzS, addW, subW, boolInt, revV, tupV, listV, isi2E, setIS, dnewE, get2E, listRgE, tupRgE, rg1R, rg2R, rg3R, eqP_int, eqP_str, neP_int, neP_str, Bool.true_or, Bool.false_or, Bool.or_true, Bool.or_false, Nat.reduceBEq, eL, lcE, itJ, wipeSl, et, l1]

theorem part3 {S W : Nat} {low : Int} {tb : List PyData} (p : Pot) : (setS 5 (tupE [(callE (cF maxK) [(constE (.int 0)), (binE subW (constE (.int 0)) (varE 2))]), (callE (cF maxK) [(constE (.int 0)), (binE subW (binE addW (varE 2) (varE 3)) (constE (.int 1)))])])) [.pot, .sh (.int S), .sh (.int low), .sh (.int W), .sh (rl S low tb), .un, .un, .un, .un, .un, .un, .un, .un, .un, .un, .un, .un, .un, .un] p = some (.nx [.pot, .sh (.int S), .sh (.int low), .sh (.int W), .sh (rl S low tb), .sh (.tuple [.int (rm0 low), .int (rm1 W low)]), .un, .un, .un, .un, .un, .un, .un, .un, .un, .un, .un, .un, .un] p) := by
  have e1 : max 0 (0 - low) = rm0 low := by unfold rm0; rw [Int.zero_sub]
  have e2 : max 0 (low + W - 1) = rm1 W low := rfl
  generalize rl S low tb = x0
  simp only [fillSl, List.length_cons, List.length_nil, List.replicate, List.cons_append, List.nil_append, List.getElem?_cons_zero, List.getElem?_cons_succ, List.set_cons_zero, List.set_cons_succ, Nat.reduceAdd, Nat.reduceSub, Nat.reduceLT, seqS, nxS, setS, dropS, retS, iteS, retV, asg, potS, potDivS, appS, extS, unpS, parS, asgPs, asgP, asgD, asgDs, calm, binE, unE, potE, constE, varE, andE, orE, notE, ifE, tupE, lstE, slE, optE, callE, callF, callKF, methE, isiE, argsE, argsOf, datsOf, resV, newT, newL, shq, shf_true, opF, cF, addV, mulV, ixV, slV, gtK, ltK, leK, geK, subK, addK, mulK, fdivK, modK, powK, intK, absK, isiB, Val.dat, Val.items, flat, flatA, isL, Bool.and_true, Bool.true_and, Bool.false_and, Bool.and_false, if_true, if_false, Bool.false_eq_true, Option.map_some, Option.map_none, Bool.not_true, Bool.not_false, decide_true, decide_false, reduceIte, reduceCtorEq, and_self, true_and, and_true, yesE_ap, sizeLine_eq, Nat.reduceLeDiff, frS, frzL, frz1, frzS, addW, subW, boolInt, revV, tupV, listV, isi2E, setIS, dnewE, get2E, listRgE, tupRgE, rg1R, rg2R, rg3R, eqP_int, eqP_str, neP_int, neP_str, Bool.true_or, Bool.false_or, Bool.or_true, Bool.or_false, Nat.reduceBEq, maxK_eq, e1, e2]

theorem part4 {S W : Nat} {low : Int} {tb : List PyData} (p : Pot) : ∃ a p', -4 ≤ a ∧ a ≤ 4 ∧ (parS [6, 7, 8] [(callE (cF max3K) [(constE (.int 1)), (binE ixV (varE 5) (constE (.int 0))), (binE ixV (varE 5) (constE (.int 1)))]), (binE subW (callF F_law_draw [(varE 0), (constE (.int 9))]) (constE (.int 4))), (lstE [])]) [.pot, .sh (.int S), .sh (.int low), .sh (.int W), .sh (rl S low tb), .sh (.tuple [.int (rm0 low), .int (rm1 W low)]), .un, .un, .un, .un, .un, .un, .un, .un, .un, .un, .un, .un, .un] p = some (.nx [.pot, .sh (.int S), .sh (.int low), .sh (.int W), .sh (rl S low tb), .sh (.tuple [.int (rm0 low), .int (rm1 W low)]), .sh (.int (leastM (rm0 low) (rm1 W low))), .sh (.int a), .own (.list []), .un, .un, .un, .un, .un, .un, .un, .un, .un, .un] p') := by
  obtain ⟨d, p', e, x0, x1⟩ := draw p 9 (by decide) (by decide)
  refine ⟨d - 4, p', by omega, by omega, ?_⟩
  have e1 : max3K [.int 1, .int (rm0 low), .int (rm1 W low)] = some (.int (leastM (rm0 low) (rm1 W low))) := rfl
  generalize rl S low tb = x0
  generalize rm0 low = r0 at *
  generalize rm1 W low = r1 at *
  simp only [fillSl, List.length_cons, List.length_nil, List.replicate, List.cons_append, List.nil_append, List.getElem?_cons_zero, List.getElem?_cons_succ, List.set_cons_zero, List.set_cons_succ, Nat.reduceAdd, Nat.reduceSub, Nat.reduceLT, seqS, nxS, setS, dropS, retS, iteS, retV, asg, potS, potDivS, appS, extS, unpS, parS, asgPs, asgP, asgD, asgDs, calm, binE, unE, potE, constE, varE, andE, orE, notE, ifE, tupE, lstE, slE, optE, callE, callF, callKF, methE, isiE, argsE, argsOf, datsOf, resV, newT, newL, shq, shf_true, opF, cF, addV, mulV, ixV, slV, gtK, ltK, leK, geK, subK, addK, mulK, fdivK, modK, powK, intK, absK, isiB, Val.dat, Val.items, flat, flatA, isL, Bool.and_true, Bool.true_and, Bool.false_and, Bool.and_false, if_true, if_false, Bool.false_eq_true, Option.map_some, Option.map_none, Bool.not_true, Bool.not_false, decide_true, decide_false, reduceIte, reduceCtorEq, and_self, true_and, and_true, yesE_ap, sizeLine_eq, Nat.reduceLeDiff, frS, frzL, frz1, frzS, addW, subW, boolInt, revV, tupV, listV, isi2E, setIS, dnewE, get2E, listRgE, tupRgE, rg1R, rg2R, rg3R, eqP_int, eqP_str, neP_int, neP_str, Bool.true_or, Bool.false_or, Bool.or_true, Bool.or_false, Nat.reduceBEq, asgPs, asgP, atI0, atI1, e1, e]

theorem least_bd {W : Nat} {low : Int} (hW : W = 1 ∨ W = 2 ∨ W = 3) (h0 : -4 ≤ low) (h1 : low ≤ 1) : 1 ≤ leastM (rm0 low) (rm1 W low) ∧ leastM (rm0 low) (rm1 W low) ≤ 4 ∧ 0 ≤ rm0 low ∧ rm0 low ≤ 4 ∧ 0 ≤ rm1 W low ∧ rm1 W low ≤ 3 := by
  unfold leastM rm0 rm1
  omega
theorem part5 {S W : Nat} {low : Int} {tb : List PyData} (hW : W = 1 ∨ W = 2 ∨ W = 3) (h0 : -4 ≤ low) (h1 : low ≤ 1) {a : Int} (ha : -4 ≤ a ∧ a ≤ 4) (p : Pot) : ∃ cs a7 a9 p', Cuts (leastM (rm0 low) (rm1 W low)) cs ∧ (forS (.nm 9) (rng1I (binE addW (constE (.int 1)) (callF F_law_draw [(varE 0), (constE (.int 4))]))) (seqS (appS 8 (varE 7))
    (setS 7 (binE addW (binE addW (varE 7) (varE 6)) (callF F_law_draw [(varE 0), (constE (.int 3))]))))) [.pot, .sh (.int S), .sh (.int low), .sh (.int W), .sh (rl S low tb), .sh (.tuple [.int (rm0 low), .int (rm1 W low)]), .sh (.int (leastM (rm0 low) (rm1 W low))), .sh (.int a), .own (.list []), .un, .un, .un, .un, .un, .un, .un, .un, .un, .un] p = some (.nx [.pot, .sh (.int S), .sh (.int low), .sh (.int W), .sh (rl S low tb), .sh (.tuple [.int (rm0 low), .int (rm1 W low)]), .sh (.int (leastM (rm0 low) (rm1 W low))), a7, .own (.list cs), a9, .un, .un, .un, .un, .un, .un, .un, .un, .un] p') := by
  obtain ⟨d, p1, e, x0, x1⟩ := draw p 4 (by decide) (by decide)
  have hb := least_bd hW h0 h1
  obtain ⟨cs, a7, a9, p', c, el⟩ := cuts_loop (leastM (rm0 low) (rm1 W low)) a ⟨hb.1, by omega⟩ ha (1 + d) ⟨by omega, by omega⟩ p1 (.sh (.int S)) (.sh (.int low)) (.sh (.int W)) (.sh (rl S low tb)) (.sh (.tuple [.int (rm0 low), .int (rm1 W low)])) .un .un .un .un .un .un .un .un .un .un
  have hr : sm62 (1 + d) = true := sm62_iff.mpr ⟨by omega, by omega⟩
  refine ⟨cs, a7, a9, p', c, ?_⟩
  generalize rl S low tb = x0 at *
  generalize (seqS (appS 8 (varE 7))
    (setS 7 (binE addW (binE addW (varE 7) (varE 6)) (callF F_law_draw [(varE 0), (constE (.int 3))])))) = B at *
  simp only [fillSl, List.length_cons, List.length_nil, List.replicate, List.cons_append, List.nil_append, List.getElem?_cons_zero, List.getElem?_cons_succ, List.set_cons_zero, List.set_cons_succ, Nat.reduceAdd, Nat.reduceSub, Nat.reduceLT, seqS, nxS, setS, dropS, retS, iteS, retV, asg, potS, potDivS, appS, extS, unpS, parS, asgPs, asgP, asgD, asgDs, calm, binE, unE, potE, constE, varE, andE, orE, notE, ifE, tupE, lstE, slE, optE, callE, callF, callKF, methE, isiE, argsE, argsOf, datsOf, resV, newT, newL, shq, shf_true, opF, cF, addV, mulV, ixV, slV, gtK, ltK, leK, geK, subK, addK, mulK, fdivK, modK, powK, intK, absK, isiB, Val.dat, Val.items, flat, flatA, isL, Bool.and_true, Bool.true_and, Bool.false_and, Bool.and_false, if_true, if_false, Bool.false_eq_true, Option.map_some, Option.map_none, Bool.not_true, Bool.not_false, decide_true, decide_false, reduceIte, reduceCtorEq, and_self, true_and, and_true, yesE_ap, sizeLine_eq, Nat.reduceLeDiff, frS, frzL, frz1, frzS, addW, subW, boolInt, revV, tupV, listV, isi2E, setIS, dnewE, get2E, listRgE, tupRgE, rg1R, rg2R, rg3R, eqP_int, eqP_str, neP_int, neP_str, Bool.true_or, Bool.false_or, Bool.or_true, Bool.or_false, Nat.reduceBEq, forS, rng1I, e, hr, el]

end K94

namespace K94
open PySem PySem.Spec PyProof.Rows L2 Pu

def fitB (d : PyData) : Bool := gd 5001 d && (decide (d.weight ≤ 200000) && decide (d.depth ≤ 20))
theorem fitB_ok {d : PyData} (h : fitB d = true) : Vok d := by
  simp only [fitB, Bool.and_eq_true, decide_eq_true_eq] at h
  exact ⟨h.1, h.2.1, h.2.2⟩
theorem fitB_all {ds : List PyData} (h : ds.all fitB = true) : ∀ d ∈ ds, Vok d := fun d hd => fitB_ok (List.all_eq_true.mp h d hd)
theorem ints_of {lo hi : Int} : ∀ {ds : List PyData}, (∀ e ∈ ds, wh e lo hi = true) → ∃ ns : List Int, ds = ns.map .int ∧ ∀ i ∈ ns, lo ≤ i ∧ i ≤ hi
  | [], _ => ⟨[], rfl, fun _ h => nomatch h⟩
  | d :: ds, h => by
    obtain ⟨i, rfl, hi⟩ := wh_int (h d (List.mem_cons_self ..))
    obtain ⟨ns, rfl, hn⟩ := ints_of fun e he => h e (List.mem_cons_of_mem _ he)
    refine ⟨i :: ns, rfl, fun j hj => ?_⟩
    rcases List.mem_cons.mp hj with rfl | hj
    · exact hi
    · exact hn j hj
theorem ints_fit {m : Nat} (hm : m < 10 ^ 12) {ns : List Int} (h : ∀ i ∈ ns, i.natAbs ≤ m) : (ns.map PyData.int).all (gd m) = true ∧ PyData.weightAll (ns.map .int) ≤ 41 * ns.length ∧ ∀ x ∈ ns.map PyData.int, x.depth ≤ 0 := by
  refine ⟨List.all_eq_true.mpr fun x hx => ?_, w_ints hm h, fun x hx => ?_⟩
  · obtain ⟨i, hi, rfl⟩ := List.mem_map.mp hx
    simp only [gd, decide_eq_true_eq]
    exact h i hi
  · obtain ⟨i, hi, rfl⟩ := List.mem_map.mp hx
    simp only [PyData.depth]; omega
theorem Cuts.fit {m : Int} {cs : List PyData} (c : Cuts m cs) {e : PyData} (he : e = .list cs ∨ e = .tuple cs) : Fit 5000 200 1 e := by
  obtain ⟨ns, rfl, hn⟩ := c.ai
  have n4 := c.n4
  rw [List.length_map] at n4
  obtain ⟨a, b, d⟩ := ints_fit (m := 5000) (by decide) (ns := ns) (fun i hi => Nat.le_trans (hn i hi) (by decide))
  exact fit_w a (by omega) d he
theorem Fit.up {m w t m' w' t' : Nat} {d : PyData} (f : Fit m w t d) (hm : m ≤ m') (hw : w ≤ w') (ht : t ≤ t') : Fit m' w' t' d := ⟨gd_mono hm f.g, Nat.le_trans f.w hw, Nat.le_trans f.t ht⟩
theorem rule_fit {S W : Nat} {low : Int} {tb : List PyData} (R : Rule S W low tb) : Fit 5001 200000 2 (rl S low tb) := by
  obtain ⟨ns, rfl, hn⟩ := ints_of (List.all_eq_true.mp R.word)
  have h8 := R.s8
  have len := R.len
  have most := R.most
  have lo := R.lo
  have hi := R.hi
  have w1 := R.w1
  rw [List.length_map] at len
  obtain ⟨a, b, d⟩ := ints_fit (m := 5001) (by decide) (ns := ns) (fun i hi => by have := hn i hi; omega)
  have f := fit_w (w := 180000) (t := 0) a (by omega) d (.inr rfl)
  have fS : Fit 5001 20 1 (.int S) := small_int (by omega)
  have fl : Fit 5001 20 1 (.int low) := small_int (by omega)
  refine ⟨?_, ?_, ?_⟩
  · unfold rl
    have g0 : gd 5001 (.str "rule") = true := by decide +kernel
    rw [gd_tuple]
    simp only [List.all_cons, List.all_nil, g0, fS.g, fl.g, f.g, Bool.and_self]
  · have q := f.w
    have q1 := fS.w
    have q2 := fl.w
    have g0 : (PyData.str "rule").weight = 4 := by decide +kernel
    generalize hT : PyData.tuple (ns.map PyData.int) = T at *
    unfold rl
    rw [hT]
    generalize hA : PyData.int (S : Int) = A at *
    generalize hB : PyData.int low = B at *
    generalize hC : PyData.str "rule" = C at *
    simp only [PyData.weight, PyData.weightAll]
    omega
  · have q := f.t
    generalize hT : PyData.tuple (ns.map PyData.int) = T at *
    unfold rl
    rw [hT]
    simp only [PyData.depth, PyData.depthAll]
    omega
theorem pair_repr {S W : Nat} {low : Int} {tb cs : List PyData} (R : Rule S W low tb) (c : Cuts (leastM (rm0 low) (rm1 W low)) cs) : reprOk2 (.list [rl S low tb, .list cs]) := by
  have f := rule_fit R
  have g := (c.fit (.inl rfl)).up (m' := 5001) (by decide) (Nat.le_refl _) (Nat.le_refl _)
  have e : (PyData.list [rl S low tb, .list cs]).weight = (rl S low tb).weight + 1 + ((PyData.list cs).weight + 1) := by
    generalize rl S low tb = x
    generalize PyData.list cs = y
    simp only [PyData.weight, PyData.weightAll]
    try omega
  have t : (PyData.list [rl S low tb, .list cs]).depth ≤ 3 := by
    have a := f.t
    have b := g.t
    generalize rl S low tb = x at *
    generalize PyData.list cs = y at *
    simp only [PyData.depth, PyData.depthAll]
    omega
  refine gd_repr (m := 5001) (by decide) ?_ (by omega) ?_
  · rw [gd_list]
    simp only [List.all_cons, List.all_nil, f.g, g.g, Bool.and_self]
  · have := f.w
    have := g.w
    rw [e]
    omega
theorem part6 {S W : Nat} {low : Int} {tb cs : List PyData} (R : Rule S W low tb) (c : Cuts (leastM (rm0 low) (rm1 W low)) cs) {a7 a9 : Slot} (p : Pot) : (setS 10 (callE (cF repr2K) [(lstE [(varE 4), (varE 8)])])) [.pot, .sh (.int S), .sh (.int low), .sh (.int W), .sh (rl S low tb), .sh (.tuple [.int (rm0 low), .int (rm1 W low)]), .sh (.int (leastM (rm0 low) (rm1 W low))), a7, .own (.list cs), a9, .un, .un, .un, .un, .un, .un, .un, .un, .un] p = some (.nx [.pot, .sh (.int S), .sh (.int low), .sh (.int W), .sh (rl S low tb), .sh (.tuple [.int (rm0 low), .int (rm1 W low)]), .sh (.int (leastM (rm0 low) (rm1 W low))), a7, .own (.list cs), a9, .sh (.str (PyData.shown (.list [rl S low tb, .list cs]))), .un, .un, .un, .un, .un, .un, .un, .un] p) := by
  have e := repr_ok (pair_repr R c)
  generalize rl S low tb = x0 at *
  simp only [fillSl, List.length_cons, List.length_nil, List.replicate, List.cons_append, List.nil_append, List.getElem?_cons_zero, List.getElem?_cons_succ, List.set_cons_zero, List.set_cons_succ, Nat.reduceAdd, Nat.reduceSub, Nat.reduceLT, seqS, nxS, setS, dropS, retS, iteS, retV, asg, potS, potDivS, appS, extS, unpS, parS, asgPs, asgP, asgD, asgDs, calm, binE, unE, potE, constE, varE, andE, orE, notE, ifE, tupE, lstE, slE, optE, callE, callF, callKF, methE, isiE, argsE, argsOf, datsOf, resV, newT, newL, shq, shf_true, opF, cF, addV, mulV, ixV, slV, gtK, ltK, leK, geK, subK, addK, mulK, fdivK, modK, powK, intK, absK, isiB, Val.dat, Val.items, flat, flatA, isL, Bool.and_true, Bool.true_and, Bool.false_and, Bool.and_false, if_true, if_false, Bool.false_eq_true, Option.map_some, Option.map_none, Bool.not_true, Bool.not_false, decide_true, decide_false, reduceIte, reduceCtorEq, and_self, true_and, and_true, yesE_ap, sizeLine_eq, Nat.reduceLeDiff, frS, frzL, frz1, frzS, addW, subW, boolInt, revV, tupV, listV, isi2E, setIS, dnewE, get2E, listRgE, tupRgE, rg1R, rg2R, rg3R, eqP_int, eqP_str, neP_int, neP_str, Bool.true_or, Bool.false_or, Bool.or_true, Bool.or_false, Nat.reduceBEq, e]

def edges1 (m : Int) : List PyData := [.list [.int 400], .list [.int 401], .list [.int (-400), .int 400], .tuple [.int (-401)], .list (rangeC (-4 * m) m 8), .list (rangeC (-4 * m) m 9), .list [.int 0, .int m], .list [.int 0, .int (m - 1)], .list [], .none, .int 0, .str "0"]
theorem edges1_ok {m : Int} (h : 1 ≤ m ∧ m ≤ 4) : ∀ d ∈ edges1 m, Vok d := by
  have hc : m = 1 ∨ m = 2 ∨ m = 3 ∨ m = 4 := by omega
  rcases hc with rfl | rfl | rfl | rfl <;> exact fitB_all (by decide +kernel)
theorem ranges {m : Int} (h : 1 ≤ m ∧ m ≤ 4) : (m ≠ 0 ∧ m.natAbs < 1073741824) ∧ (Builtin.Range.small (-4 * m) (4 * m) m = true ∧ Builtin.Range.rangeSize (-4 * m) (4 * m) m = 8) ∧ (Builtin.Range.small (-4 * m) (5 * m) m = true ∧ Builtin.Range.rangeSize (-4 * m) (5 * m) m = 9) := by
  have hc : m = 1 ∨ m = 2 ∨ m = 3 ∨ m = 4 := by omega
  rcases hc with rfl | rfl | rfl | rfl <;> exact ⟨⟨by decide, by decide⟩, ⟨by decide +kernel, by decide +kernel⟩, ⟨by decide +kernel, by decide +kernel⟩⟩
theorem part7 {S W : Nat} {low : Int} {tb cs : List PyData} (hW : W = 1 ∨ W = 2 ∨ W = 3) (h0 : -4 ≤ low) (h1 : low ≤ 1) {a7 a9 : Slot} (p : Pot) : (setS 11 (lstE [(lstE [(constE (.int 400))]), (lstE [(constE (.int 401))]), (lstE [(unE negV (constE (.int 400))), (constE (.int 400))]), (tupE [(unE negV (constE (.int 401)))]), (listRgE (rg3R (binE mulV (unE negV (constE (.int 4))) (varE 6)) (binE mulV (constE (.int 4)) (varE 6)) (varE 6))), (listRgE (rg3R (binE mulV (unE negV (constE (.int 4))) (varE 6)) (binE mulV (constE (.int 5)) (varE 6)) (varE 6))), (lstE [(constE (.int 0)), (varE 6)]), (lstE [(constE (.int 0)), (binE subW (varE 6) (constE (.int 1)))]), (lstE []), (constE .none), (constE (.int 0)), (constE (.str "0"))])) [.pot, .sh (.int S), .sh (.int low), .sh (.int W), .sh (rl S low tb), .sh (.tuple [.int (rm0 low), .int (rm1 W low)]), .sh (.int (leastM (rm0 low) (rm1 W low))), a7, .own (.list cs), a9, .sh (.str (PyData.shown (.list [rl S low tb, .list cs]))), .un, .un, .un, .un, .un, .un, .un, .un] p = some (.nx [.pot, .sh (.int S), .sh (.int low), .sh (.int W), .sh (rl S low tb), .sh (.tuple [.int (rm0 low), .int (rm1 W low)]), .sh (.int (leastM (rm0 low) (rm1 W low))), a7, .own (.list cs), a9, .sh (.str (PyData.shown (.list [rl S low tb, .list cs]))), .own (.list (edges1 (leastM (rm0 low) (rm1 W low)))), .un, .un, .un, .un, .un, .un, .un] p) := by
  have hb := least_bd hW h0 h1
  obtain ⟨r0, ⟨r1, r2⟩, ⟨r3, r4⟩⟩ := ranges (m := leastM (rm0 low) (rm1 W low)) ⟨hb.1, hb.2.1⟩
  generalize PyData.shown (.list [rl S low tb, .list cs]) = sh
  generalize rl S low tb = x0 at *
  generalize leastM (rm0 low) (rm1 W low) = m at *
  have k1 : (sm64 (-4) || sm64 m) = true := rfl
  have k2 : (sm64 4 || sm64 m) = true := rfl
  have k3 : (sm64 5 || sm64 m) = true := rfl
  have e8 : (8 : Int).toNat = 8 := rfl
  have e9 : (9 : Int).toNat = 9 := rfl
  have i8 : (0 : Int) ≤ 8 ∧ (8 : Int) ≤ 16777216 := by decide
  have i9 : (0 : Int) ≤ 9 ∧ (9 : Int) ≤ 16777216 := by decide
  unfold edges1
  simp only [fillSl, List.length_cons, List.length_nil, List.replicate, List.cons_append, List.nil_append, List.getElem?_cons_zero, List.getElem?_cons_succ, List.set_cons_zero, List.set_cons_succ, Nat.reduceAdd, Nat.reduceSub, Nat.reduceLT, seqS, nxS, setS, dropS, retS, iteS, retV, asg, potS, potDivS, appS, extS, unpS, parS, asgPs, asgP, asgD, asgDs, calm, binE, unE, potE, constE, varE, andE, orE, notE, ifE, tupE, lstE, slE, optE, callE, callF, callKF, methE, isiE, argsE, argsOf, datsOf, resV, newT, newL, shq, shf_true, opF, cF, addV, mulV, ixV, slV, gtK, ltK, leK, geK, subK, addK, mulK, fdivK, modK, powK, intK, absK, isiB, Val.dat, Val.items, flat, flatA, isL, Bool.and_true, Bool.true_and, Bool.false_and, Bool.and_false, if_true, if_false, Bool.false_eq_true, Option.map_some, Option.map_none, Bool.not_true, Bool.not_false, decide_true, decide_false, reduceIte, reduceCtorEq, and_self, true_and, and_true, yesE_ap, sizeLine_eq, Nat.reduceLeDiff, frS, frzL, frz1, frzS, addW, subW, boolInt, revV, tupV, listV, isi2E, setIS, dnewE, get2E, listRgE, tupRgE, rg1R, rg2R, rg3R, eqP_int, eqP_str, neP_int, neP_str, Bool.true_or, Bool.false_or, Bool.or_true, Bool.or_false, Nat.reduceBEq, negV, k1, k2, k3, r0, ne_eq, not_false_eq_true, r1, r2, r3, r4, e8, e9, i8, i9]
  try rfl

end K94

namespace K94
open PySem PySem.Spec PyProof.Rows L2 Pu

theorem bent_ok {d : PyData} (f : Fit 5000 60000 10 d) (p : Pot) : ∃ v d' p', F_law_bent 12 [.pot, .sh d] p = some (v, p') ∧ v.dat = some (d', true) ∧ Vok d' := by
  obtain ⟨v, d', p', e1, e2, g⟩ := bent 12 d p (by have := f.t; omega) f.g f.w
  exact ⟨v, d', p', e1, e2, g.up (Nat.le_refl _) (by have := f.w; omega) (by have := f.t; omega)⟩
theorem callF_bent {d : PyData} (f : Fit 5000 60000 10 d) {fe : Ev} {sl : Sl} (hp : varE 0 sl = fun p => some (.pot, p)) (he : ∀ p, fe sl p = some (.sh d, p)) (p : Pot) : ∃ val p' e, callF (F_law_bent 12) [varE 0, fe] sl p = some (val, p') ∧ val.dat = some (e, true) ∧ Vok e := by
  obtain ⟨v, d', p', e1, e2, g⟩ := bent_ok f p
  refine ⟨resV true [.pot, .sh d] v, p', d', ?_, dat_res e2 _, g⟩
  unfold callF
  simp only [argsE, hp, he, argsOf, Val.dat, Bool.and_true, e1]

theorem part8 {S W : Nat} {low : Int} {tb cs : List PyData} (R : Rule S W low tb) (c : Cuts (leastM (rm0 low) (rm1 W low)) cs) {a7 a9 : Slot} (hb : 1 ≤ leastM (rm0 low) (rm1 W low) ∧ leastM (rm0 low) (rm1 W low) ≤ 4) (p : Pot) : ∃ a9' a11 a12 a13 a14 p', (frS [8] (forS (.nm 12) (itV (binE addW (binE addW (lstE [(varE 8), (callE tupV [(varE 8)]), (unE revV (varE 8)), (dictE [((constE (.int 0)), (constE (.int 1)))])]) (varE 11)) (lcE (.nm 9) (rng1J (constE (.int 8))) yesE (callF (F_law_bent 12) [(varE 0), (varE 8)]) [9]))) (seqS (parS [13, 14] [(callF F_law_is_cuts [(varE 5), (varE 12)]), (callE (cF repr2K) [(varE 12)])])
    (iteS (orE (binE (opF neP) (callE (cF repr2K) [(lstE [(callF F_is_cuts [(varE 4), (varE 12)]), (callKF F_is_cuts [1, 0] [(varE 12), (varE 4)])])]) (callE (cF repr2K) [(lstE [(varE 13), (varE 13)])])) (binE (opF neP) (callE (cF repr2K) [(varE 12)]) (varE 14))) (retS (constE (.bool false))) nxS)))) [.pot, .sh (.int S), .sh (.int low), .sh (.int W), .sh (rl S low tb), .sh (.tuple [.int (rm0 low), .int (rm1 W low)]), .sh (.int (leastM (rm0 low) (rm1 W low))), a7, .own (.list cs), a9, .sh (.str (PyData.shown (.list [rl S low tb, .list cs]))), .own (.list (edges1 (leastM (rm0 low) (rm1 W low)))), .un, .un, .un, .un, .un, .un, .un] p = some (.nx [.pot, .sh (.int S), .sh (.int low), .sh (.int W), .sh (rl S low tb), .sh (.tuple [.int (rm0 low), .int (rm1 W low)]), .sh (.int (leastM (rm0 low) (rm1 W low))), a7, .sh (.list cs), a9', .sh (.str (PyData.shown (.list [rl S low tb, .list cs]))), a11, a12, a13, a14, .un, .un, .un, .un] p') := by
  have fc := c.fit (.inl rfl)
  have ft := c.fit (.inr rfl)
  have n4 := c.n4
  obtain ⟨bs, p', eb, bl, bo⟩ := compL_all (t := .nm 9) (fe := callF (F_law_bent 12) [(varE 0), (varE 8)]) (sl := [.pot, .sh (.int S), .sh (.int low), .sh (.int W), .sh (rl S low tb), .sh (.tuple [.int (rm0 low), .int (rm1 W low)]), .sh (.int (leastM (rm0 low) (rm1 W low))), a7, .sh (.list cs), .un, .sh (.str (PyData.shown (.list [rl S low tb, .list cs]))), .own (.list (edges1 (leastM (rm0 low) (rm1 W low)))), .un, .un, .un, .un, .un, .un, .un]) (C := Vok) (rangeD 0 8) (fun d _ => ⟨_, rfl, fun p => callF_bent (fc.up (Nat.le_refl _) (by decide) (by decide)) rfl (fun _ => rfl) p⟩) p
  have b8 : bs.length = 8 := by rw [bl, rng_len]
  have eo := edges1_ok hb
  have el : (edges1 (leastM (rm0 low) (rm1 W low))).length = 12 := rfl
  have rv : Vok (.list cs.reverse) := by
    obtain ⟨ns, rfl, hn⟩ := c.ai
    rw [List.length_map] at n4
    obtain ⟨a, b, d⟩ := ints_fit (m := 5001) (by decide) (ns := ns) (fun i hi => Nat.le_trans (hn i hi) (by decide))
    exact (fit_w (w := 200) (t := 0) (all_sub a fun x hx => List.mem_reverse.mp hx) (by rw [wA_reverse]; omega) (fun x hx => d x (List.mem_reverse.mp hx)) (.inl rfl)).up (Nat.le_refl _) (by decide) (by decide)
  have vo : ∀ d ∈ ([PyData.list cs, .tuple cs, .list cs.reverse, .dict [(.int 0, .int 1)]] ++ edges1 (leastM (rm0 low) (rm1 W low))) ++ bs, Vok d := fun d hd => by
    rcases List.mem_append.mp hd with hd | hd
    · rcases List.mem_append.mp hd with hd | hd
      · simp only [List.mem_cons, List.not_mem_nil, or_false] at hd
        rcases hd with rfl | rfl | rfl | rfl
        · exact fc.up (by decide) (by decide) (by decide)
        · exact ft.up (by decide) (by decide) (by decide)
        · exact rv
        · exact fitB_ok (by decide +kernel)
      · exact eo d hd
    · exact bo d hd
  obtain ⟨x12, x13, x14, e⟩ := loop1 R p' (.sh (.int S)) (.sh (.int low)) (.sh (.int W)) (.sh (.int (leastM (rm0 low) (rm1 W low)))) a7 (.sh (.list cs)) a9 (.sh (.str (PyData.shown (.list [rl S low tb, .list cs])))) (.own (.list (edges1 (leastM (rm0 low) (rm1 W low))))) .un .un .un .un _ vo .un .un .un
  refine ⟨a9, .own (.list (edges1 (leastM (rm0 low) (rm1 W low)))), x12, x13, x14, p', ?_⟩
  have hr : sm62 8 = true := rfl
  have h8 : (8 : Int).toNat = 8 := rfl
  have d1 : distinct [(PyData.int 0, PyData.int 1)] = true := rfl
  have k0 : isKey (.int 0) = true := rfl
  generalize PyData.shown (.list [rl S low tb, .list cs]) = sh at *
  generalize rl S low tb = x0 at *
  generalize edges1 (leastM (rm0 low) (rm1 W low)) = es at *
  generalize (seqS (parS [13, 14] [(callF F_law_is_cuts [(varE 5), (varE 12)]), (callE (cF repr2K) [(varE 12)])])
    (iteS (orE (binE (opF neP) (callE (cF repr2K) [(lstE [(callF F_is_cuts [(varE 4), (varE 12)]), (callKF F_is_cuts [1, 0] [(varE 12), (varE 4)])])]) (callE (cF repr2K) [(lstE [(varE 13), (varE 13)])])) (binE (opF neP) (callE (cF repr2K) [(varE 12)]) (varE 14))) (retS (constE (.bool false))) nxS)) = B at *
  simp only [fillSl, List.length_cons, List.length_nil, List.replicate, List.cons_append, List.nil_append, List.getElem?_cons_zero, List.getElem?_cons_succ, List.set_cons_zero, List.set_cons_succ, Nat.reduceAdd, Nat.reduceSub, Nat.reduceLT, seqS, nxS, setS, dropS, retS, iteS, retV, asg, potS, potDivS, appS, extS, unpS, parS, asgPs, asgP, asgD, asgDs, calm, binE, unE, potE, constE, varE, andE, orE, notE, ifE, tupE, lstE, slE, optE, callE, callF, callKF, methE, isiE, argsE, argsOf, datsOf, resV, newT, newL, shq, shf_true, opF, cF, addV, mulV, ixV, slV, gtK, ltK, leK, geK, subK, addK, mulK, fdivK, modK, powK, intK, absK, isiB, Val.dat, Val.items, flat, flatA, isL, Bool.and_true, Bool.true_and, Bool.false_and, Bool.and_false, if_true, if_false, Bool.false_eq_true, Option.map_some, Option.map_none, Bool.not_true, Bool.not_false, decide_true, decide_false, reduceIte, reduceCtorEq, and_self, true_and, and_true, yesE_ap, sizeLine_eq, Nat.reduceLeDiff, frS, frzL, frz1, frzS, addW, subW, boolInt, revV, tupV, listV, isi2E, setIS, dnewE, get2E, listRgE, tupRgE, rg1R, rg2R, rg3R, eqP_int, eqP_str, neP_int, neP_str, Bool.true_or, Bool.false_or, Bool.or_true, Bool.or_false, Nat.reduceBEq, forS, itV, seqD, Pu.calm, lcE, rng1J, hr, h8, wipeSl, eb, b8, el, dictE, pairsE, k0, d1, List.length_append]
  exact e

end K94

namespace K94
open PySem PySem.Spec PyProof.Rows L2 Pu

theorem part9 {S W : Nat} {low : Int} {tb cs : List PyData} (R : Rule S W low tb) (c : Cuts (leastM (rm0 low) (rm1 W low)) cs) {a7 a9 a11 a12 a13 a14 : Slot} (p : Pot) : ∃ w p', 0 ≤ w ∧ w ≤ 3 ∧ (setS 15 (callF F_law_draw [(varE 0), (callE lenV [(varE 8)])])) [.pot, .sh (.int S), .sh (.int low), .sh (.int W), .sh (rl S low tb), .sh (.tuple [.int (rm0 low), .int (rm1 W low)]), .sh (.int (leastM (rm0 low) (rm1 W low))), a7, .sh (.list cs), a9, .sh (.str (PyData.shown (.list [rl S low tb, .list cs]))), a11, a12, a13, a14, .un, .un, .un, .un] p = some (.nx [.pot, .sh (.int S), .sh (.int low), .sh (.int W), .sh (rl S low tb), .sh (.tuple [.int (rm0 low), .int (rm1 W low)]), .sh (.int (leastM (rm0 low) (rm1 W low))), a7, .sh (.list cs), a9, .sh (.str (PyData.shown (.list [rl S low tb, .list cs]))), a11, a12, a13, a14, .sh (.int w), .un, .un, .un] p') := by
  have n1 := c.n1
  have n4 := c.n4
  obtain ⟨w, p', e, w0, w1⟩ := draw p (cs.length : Int) (by omega) (by omega)
  refine ⟨w, p', w0, by omega, ?_⟩
  generalize PyData.shown (.list [rl S low tb, .list cs]) = sh
  generalize rl S low tb = x0
  generalize hk : (cs.length : Int) = k at *
  simp only [fillSl, List.length_cons, List.length_nil, List.replicate, List.cons_append, List.nil_append, List.getElem?_cons_zero, List.getElem?_cons_succ, List.set_cons_zero, List.set_cons_succ, Nat.reduceAdd, Nat.reduceSub, Nat.reduceLT, seqS, nxS, setS, dropS, retS, iteS, retV, asg, potS, potDivS, appS, extS, unpS, parS, asgPs, asgP, asgD, asgDs, calm, binE, unE, potE, constE, varE, andE, orE, notE, ifE, tupE, lstE, slE, optE, callE, callF, callKF, methE, isiE, argsE, argsOf, datsOf, resV, newT, newL, shq, shf_true, opF, cF, addV, mulV, ixV, slV, gtK, ltK, leK, geK, subK, addK, mulK, fdivK, modK, powK, intK, absK, isiB, Val.dat, Val.items, flat, flatA, isL, Bool.and_true, Bool.true_and, Bool.false_and, Bool.and_false, if_true, if_false, Bool.false_eq_true, Option.map_some, Option.map_none, Bool.not_true, Bool.not_false, decide_true, decide_false, reduceIte, reduceCtorEq, and_self, true_and, and_true, yesE_ap, sizeLine_eq, Nat.reduceLeDiff, frS, frzL, frz1, frzS, addW, subW, boolInt, revV, tupV, listV, isi2E, setIS, dnewE, get2E, listRgE, tupRgE, rg1R, rg2R, rg3R, eqP_int, eqP_str, neP_int, neP_str, Bool.true_or, Bool.false_or, Bool.or_true, Bool.or_false, Nat.reduceBEq, lenV, hk, e]

def reps (x : Int) (r : Int) : PyData := .tuple (List.replicate r.toNat [PyData.int x]).flatten
def lets3 (r0 r1 w t : Int) : List PyData := [.tuple [.str "letter", .int w, .int (w + 1), .int t, reps 0 r0], .tuple [.str "letter", .int (w + 1), .int w, .int 1000, reps 1 r1], .tuple [.str "letter", .int w, .int (w + 1), .int 1001, reps 0 r0]]
def lets8 (r0 : Int) : List PyData := [.tuple [.str "letter", .int 0, .int 1, .int 0, .tuple []], .tuple [.str "letter", .int 1, .int 0, .int 0, .tuple []], .tuple [.str "letter", .int 0, .int 0, .int 0, .tuple [.int 0]], .tuple [.str "letter", .int 0, .int 2, .int 0, reps 0 r0], .none, .tuple [], .int 0, .str "letter"]
theorem mul_rep (x r : Int) (h : 0 ≤ r ∧ r ≤ 4) : mulV (.sh (.tuple [.int x])) (.sh (.int r)) = some (.sh (reps x r)) := by
  have hc : r ≤ 1000 ∧ -1000 ≤ r ∧ [PyData.int x].length ≤ 1000 := ⟨by omega, by omega, by simp⟩
  show (if r ≤ 1000 ∧ -1000 ≤ r ∧ [PyData.int x].length ≤ 1000 then some (shq true (.tuple (List.replicate r.toNat [PyData.int x]).flatten)) else none) = _
  rw [if_pos hc]
  rfl
theorem part10 {S W : Nat} {low : Int} {tb cs : List PyData} (hr0 : 0 ≤ rm0 low ∧ rm0 low ≤ 4) (hr1 : 0 ≤ rm1 W low ∧ rm1 W low ≤ 4) {a7 a9 a11 a12 a13 a14 : Slot} {w : Int} (p : Pot) : ∃ t p', 0 ≤ t ∧ t ≤ 4 ∧ (setS 16 (lstE [(tupE [(constE (.str "letter")), (varE 15), (binE addW (varE 15) (constE (.int 1))), (callF F_law_draw [(varE 0), (constE (.int 5))]), (binE mulV (tupE [(constE (.int 0))]) (binE ixV (varE 5) (constE (.int 0))))]), (tupE [(constE (.str "letter")), (binE addW (varE 15) (constE (.int 1))), (varE 15), (constE (.int 1000)), (binE mulV (tupE [(constE (.int 1))]) (binE ixV (varE 5) (constE (.int 1))))]), (tupE [(constE (.str "letter")), (varE 15), (binE addW (varE 15) (constE (.int 1))), (constE (.int 1001)), (binE mulV (tupE [(constE (.int 0))]) (binE ixV (varE 5) (constE (.int 0))))])])) [.pot, .sh (.int S), .sh (.int low), .sh (.int W), .sh (rl S low tb), .sh (.tuple [.int (rm0 low), .int (rm1 W low)]), .sh (.int (leastM (rm0 low) (rm1 W low))), a7, .sh (.list cs), a9, .sh (.str (PyData.shown (.list [rl S low tb, .list cs]))), a11, a12, a13, a14, .sh (.int w), .un, .un, .un] p = some (.nx [.pot, .sh (.int S), .sh (.int low), .sh (.int W), .sh (rl S low tb), .sh (.tuple [.int (rm0 low), .int (rm1 W low)]), .sh (.int (leastM (rm0 low) (rm1 W low))), a7, .sh (.list cs), a9, .sh (.str (PyData.shown (.list [rl S low tb, .list cs]))), a11, a12, a13, a14, .sh (.int w), .own (.list (lets3 (rm0 low) (rm1 W low) w t)), .un, .un] p') := by
  obtain ⟨t, p', e, t0, t1⟩ := draw p 5 (by decide) (by decide)
  refine ⟨t, p', t0, by omega, ?_⟩
  have m0 := mul_rep 0 (rm0 low) hr0
  have m1 := mul_rep 1 (rm1 W low) hr1
  unfold lets3
  generalize PyData.shown (.list [rl S low tb, .list cs]) = sh
  generalize rl S low tb = x0
  generalize rm0 low = r0 at *
  generalize rm1 W low = r1 at *
  generalize reps 0 r0 = q0 at *
  generalize reps 1 r1 = q1 at *
  simp only [fillSl, List.length_cons, List.length_nil, List.replicate, List.cons_append, List.nil_append, List.getElem?_cons_zero, List.getElem?_cons_succ, List.set_cons_zero, List.set_cons_succ, Nat.reduceAdd, Nat.reduceSub, Nat.reduceLT, seqS, nxS, setS, dropS, retS, iteS, retV, asg, potS, potDivS, appS, extS, unpS, parS, asgPs, asgP, asgD, asgDs, calm, binE, unE, potE, constE, varE, andE, orE, notE, ifE, tupE, lstE, slE, optE, callE, callF, callKF, methE, isiE, argsE, argsOf, datsOf, resV, newT, newL, shq, shf_true, opF, cF, addV, ixV, slV, gtK, ltK, leK, geK, subK, addK, mulK, fdivK, modK, powK, intK, absK, isiB, Val.dat, Val.items, flat, flatA, isL, Bool.and_true, Bool.true_and, Bool.false_and, Bool.and_false, if_true, if_false, Bool.false_eq_true, Option.map_some, Option.map_none, Bool.not_true, Bool.not_false, decide_true, decide_false, reduceIte, reduceCtorEq, and_self, true_and, and_true, yesE_ap, sizeLine_eq, Nat.reduceLeDiff, frS, frzL, frz1, frzS, addW, subW, boolInt, revV, tupV, listV, isi2E, setIS, dnewE, get2E, listRgE, tupRgE, rg1R, rg2R, rg3R, eqP_int, eqP_str, neP_int, neP_str, Bool.true_or, Bool.false_or, Bool.or_true, Bool.or_false, Nat.reduceBEq, atI0, atI1, e, m0, m1]

theorem part11 {S W : Nat} {low : Int} {tb cs : List PyData} (hr0 : 0 ≤ rm0 low ∧ rm0 low ≤ 4) {a7 a9 a11 a12 a13 a14 : Slot} {w t : Int} (p : Pot) : (extS 16 (lstE [(tupE [(constE (.str "letter")), (constE (.int 0)), (constE (.int 1)), (constE (.int 0)), (tupE [])]), (tupE [(constE (.str "letter")), (constE (.int 1)), (constE (.int 0)), (constE (.int 0)), (tupE [])]), (tupE [(constE (.str "letter")), (constE (.int 0)), (constE (.int 0)), (constE (.int 0)), (tupE [(constE (.int 0))])]), (tupE [(constE (.str "letter")), (constE (.int 0)), (constE (.int 2)), (constE (.int 0)), (binE mulV (tupE [(constE (.int 0))]) (binE ixV (varE 5) (constE (.int 0))))]), (constE .none), (tupE []), (constE (.int 0)), (constE (.str "letter"))])) [.pot, .sh (.int S), .sh (.int low), .sh (.int W), .sh (rl S low tb), .sh (.tuple [.int (rm0 low), .int (rm1 W low)]), .sh (.int (leastM (rm0 low) (rm1 W low))), a7, .sh (.list cs), a9, .sh (.str (PyData.shown (.list [rl S low tb, .list cs]))), a11, a12, a13, a14, .sh (.int w), .own (.list (lets3 (rm0 low) (rm1 W low) w t)), .un, .un] p = some (.nx [.pot, .sh (.int S), .sh (.int low), .sh (.int W), .sh (rl S low tb), .sh (.tuple [.int (rm0 low), .int (rm1 W low)]), .sh (.int (leastM (rm0 low) (rm1 W low))), a7, .sh (.list cs), a9, .sh (.str (PyData.shown (.list [rl S low tb, .list cs]))), a11, a12, a13, a14, .sh (.int w), .own (.list (lets3 (rm0 low) (rm1 W low) w t ++ lets8 (rm0 low))), .un, .un] p) := by
  have m0 := mul_rep 0 (rm0 low) hr0
  have l3 : (lets3 (rm0 low) (rm1 W low) w t).length = 3 := rfl
  generalize lets3 (rm0 low) (rm1 W low) w t = L at *
  unfold lets8
  generalize PyData.shown (.list [rl S low tb, .list cs]) = sh
  generalize rl S low tb = x0
  generalize rm0 low = r0 at *
  generalize rm1 W low = r1 at *
  generalize reps 0 r0 = q0 at *
  simp only [fillSl, List.length_cons, List.length_nil, List.replicate, List.cons_append, List.nil_append, List.getElem?_cons_zero, List.getElem?_cons_succ, List.set_cons_zero, List.set_cons_succ, Nat.reduceAdd, Nat.reduceSub, Nat.reduceLT, seqS, nxS, setS, dropS, retS, iteS, retV, asg, potS, potDivS, appS, extS, unpS, parS, asgPs, asgP, asgD, asgDs, calm, binE, unE, potE, constE, varE, andE, orE, notE, ifE, tupE, lstE, slE, optE, callE, callF, callKF, methE, isiE, argsE, argsOf, datsOf, resV, newT, newL, shq, shf_true, opF, cF, addV, ixV, slV, gtK, ltK, leK, geK, subK, addK, mulK, fdivK, modK, powK, intK, absK, isiB, Val.dat, Val.items, flat, flatA, isL, Bool.and_true, Bool.true_and, Bool.false_and, Bool.and_false, if_true, if_false, Bool.false_eq_true, Option.map_some, Option.map_none, Bool.not_true, Bool.not_false, decide_true, decide_false, reduceIte, reduceCtorEq, and_self, true_and, and_true, yesE_ap, sizeLine_eq, Nat.reduceLeDiff, frS, frzL, frz1, frzS, addW, subW, boolInt, revV, tupV, listV, isi2E, setIS, dnewE, get2E, listRgE, tupRgE, rg1R, rg2R, rg3R, eqP_int, eqP_str, neP_int, neP_str, Bool.true_or, Bool.false_or, Bool.or_true, Bool.or_false, Nat.reduceBEq, atI0, atI1, m0, l3]

end K94

namespace K94
open PySem PySem.Spec PyProof.Rows L2 Pu

theorem small_int0 {i : Int} (h : i.natAbs ≤ 5000) : Fit 5000 20 0 (.int i) := by
  have f := small_int (i := i) (by omega)
  exact ⟨by simp only [gd, decide_eq_true_eq]; exact h, f.w, by simp only [PyData.depth]; omega⟩
theorem reps_fit {x r : Int} (hx : x = 0 ∨ x = 1) (h : 0 ≤ r ∧ r ≤ 4) : Fit 5000 100 1 (reps x r) := by
  have hc : r = 0 ∨ r = 1 ∨ r = 2 ∨ r = 3 ∨ r = 4 := by omega
  rcases hx with rfl | rfl <;> rcases hc with rfl | rfl | rfl | rfl | rfl <;> exact ⟨by decide +kernel, by decide +kernel, by decide +kernel⟩
theorem tup_fit {m w t n : Nat} : ∀ {ds : List PyData}, (∀ d ∈ ds, Fit m w t d) → ds.length ≤ n → Fit m (n * (w + 1)) (t + 1) (.tuple ds) ∧ Fit m (n * (w + 1)) (t + 1) (.list ds) := fun {ds} h hl => by
  have hw : ∀ ds : List PyData, (∀ d ∈ ds, Fit m w t d) → PyData.weightAll ds ≤ ds.length * (w + 1) := fun ds => by
    induction ds with
    | nil => intro _; simp only [PyData.weightAll, List.length_nil]; omega
    | cons d ds ih =>
      intro h
      have a := (h d (List.mem_cons_self ..)).w
      have b := ih fun x hx => h x (List.mem_cons_of_mem _ hx)
      simp only [PyData.weightAll, List.length_cons, Nat.add_mul, Nat.one_mul]
      omega
  have q := Nat.le_trans (hw ds h) (Nat.mul_le_mul_right (w + 1) hl)
  have f := fun e he => fit_w (e := e) (List.all_eq_true.mpr fun x hx => (h x hx).g) q (fun x hx => (h x hx).t) he
  exact ⟨f _ (.inr rfl), f _ (.inl rfl)⟩
theorem str_fit {z : Str} (h : fitB (.str z) = true) (hw : z.cps.size ≤ 20) : Fit 5000 20 0 (.str z) := by
  have g := (fitB_ok h).g
  exact ⟨by simpa only [gd] using g, by simpa only [PyData.weight] using hw, by simp only [PyData.depth]; omega⟩
theorem letter_fit {a b t : Int} {q : PyData} (ha : 0 ≤ a ∧ a ≤ 4) (hb : 0 ≤ b ∧ b ≤ 4) (ht : 0 ≤ t ∧ t ≤ 1001) (hq : Fit 5000 100 1 q) : Fit 5000 505 2 (.tuple [.str "letter", .int a, .int b, .int t, q]) := by
  refine (tup_fit (m := 5000) (w := 100) (t := 1) (n := 5) (fun d hd => ?_) (Nat.le_refl _)).1
  simp only [List.mem_cons, List.not_mem_nil, or_false] at hd
  rcases hd with rfl | rfl | rfl | rfl | rfl
  · exact (str_fit (by decide +kernel) (by decide +kernel)).up (Nat.le_refl _) (by decide) (by decide)
  · exact (small_int0 (by omega)).up (Nat.le_refl _) (by decide) (by decide)
  · exact (small_int0 (by omega)).up (Nat.le_refl _) (by decide) (by decide)
  · exact (small_int0 (by omega)).up (Nat.le_refl _) (by decide) (by decide)
  · exact hq
theorem lets_ok {r0 r1 w t : Int} (h0 : 0 ≤ r0 ∧ r0 ≤ 4) (h1 : 0 ≤ r1 ∧ r1 ≤ 4) (hw : 0 ≤ w ∧ w ≤ 3) (ht : 0 ≤ t ∧ t ≤ 4) : (∀ d ∈ lets3 r0 r1 w t, Fit 5000 505 2 d) ∧ ∀ d ∈ lets8 r0, Vok d := by
  have f0 := reps_fit (x := 0) (.inl rfl) h0
  have f1 := reps_fit (x := 1) (.inr rfl) h1
  constructor
  · intro d hd
    simp only [lets3, List.mem_cons, List.not_mem_nil, or_false] at hd
    rcases hd with rfl | rfl | rfl
    · exact letter_fit (by omega) (by omega) (by omega) f0
    · exact letter_fit (by omega) (by omega) (by decide) f1
    · exact letter_fit (by omega) (by omega) (by decide) f0
  · intro d hd
    simp only [lets8, List.mem_cons, List.not_mem_nil, or_false] at hd
    rcases hd with rfl | rfl | rfl | rfl | rfl | rfl | rfl | rfl
    · exact fitB_ok (by decide +kernel)
    · exact fitB_ok (by decide +kernel)
    · exact fitB_ok (by decide +kernel)
    · exact (letter_fit (by decide) (by decide) (by decide) f0).up (by decide) (by decide) (by decide)
    · exact fitB_ok (by decide +kernel)
    · exact fitB_ok (by decide +kernel)
    · exact fitB_ok (by decide +kernel)
    · exact fitB_ok (by decide +kernel)

theorem part12 {S W : Nat} {low : Int} {tb cs : List PyData} (R : Rule S W low tb) (c : Cuts (leastM (rm0 low) (rm1 W low)) cs) (hr0 : 0 ≤ rm0 low ∧ rm0 low ≤ 4) (hr1 : 0 ≤ rm1 W low ∧ rm1 W low ≤ 4) {a7 a9 a11 a12 a13 a14 : Slot} {w t : Int} (hw : 0 ≤ w ∧ w ≤ 3) (ht : 0 ≤ t ∧ t ≤ 4) (p : Pot) : ∃ b7 b12 b13 b14 p', (forS (.nm 12) (itV (binE addW (varE 16) (lcE (.nm 7) (itJ (tupE [(constE (.int 0)), (constE (.int 0)), (constE (.int 0)), (constE (.int 1)), (constE (.int 1)), (constE (.int 1)), (constE (.int 0)), (constE (.int 1))])) yesE (callF (F_law_bent 12) [(varE 0), (binE ixV (varE 16) (varE 7))]) [7]))) (seqS (parS [13, 14] [(callF F_law_is_letter [(varE 1), (varE 5), (varE 8), (varE 12)]), (callE (cF repr2K) [(varE 12)])])
    (iteS (orE (binE (opF neP) (callE (cF repr2K) [(lstE [(callF F_is_letter [(varE 4), (varE 8), (varE 12)]), (callKF F_is_letter [2, 1, 0] [(varE 12), (varE 8), (varE 4)])])]) (callE (cF repr2K) [(lstE [(varE 13), (varE 13)])])) (binE (opF neP) (callE (cF repr2K) [(varE 12)]) (varE 14))) (retS (constE (.bool false))) nxS))) [.pot, .sh (.int S), .sh (.int low), .sh (.int W), .sh (rl S low tb), .sh (.tuple [.int (rm0 low), .int (rm1 W low)]), .sh (.int (leastM (rm0 low) (rm1 W low))), a7, .sh (.list cs), a9, .sh (.str (PyData.shown (.list [rl S low tb, .list cs]))), a11, a12, a13, a14, .sh (.int w), .own (.list (lets3 (rm0 low) (rm1 W low) w t ++ lets8 (rm0 low))), .un, .un] p = some (.nx [.pot, .sh (.int S), .sh (.int low), .sh (.int W), .sh (rl S low tb), .sh (.tuple [.int (rm0 low), .int (rm1 W low)]), .sh (.int (leastM (rm0 low) (rm1 W low))), b7, .sh (.list cs), a9, .sh (.str (PyData.shown (.list [rl S low tb, .list cs]))), a11, b12, b13, b14, .sh (.int w), .own (.list (lets3 (rm0 low) (rm1 W low) w t ++ lets8 (rm0 low))), .un, .un] p') := by
  have lo := lets_ok hr0 hr1 hw ht
  have L0 : atI (lets3 (rm0 low) (rm1 W low) w t ++ lets8 (rm0 low)) 0 = some (.tuple [.str "letter", .int w, .int (w + 1), .int t, reps 0 (rm0 low)]) := atI_nat (j := 0) rfl
  have L1 : atI (lets3 (rm0 low) (rm1 W low) w t ++ lets8 (rm0 low)) 1 = some (.tuple [.str "letter", .int (w + 1), .int w, .int 1000, reps 1 (rm1 W low)]) := atI_nat (j := 1) rfl
  have F0 := (lo.1 _ (List.mem_cons_self ..)).up (m' := 5000) (w' := 60000) (t' := 10) (Nat.le_refl _) (by decide) (by decide)
  have F1 := (lo.1 _ (List.mem_cons_of_mem _ (List.mem_cons_self ..))).up (m' := 5000) (w' := 60000) (t' := 10) (Nat.le_refl _) (by decide) (by decide)
  have hL : (lets3 (rm0 low) (rm1 W low) w t ++ lets8 (rm0 low)).length = 11 := rfl
  obtain ⟨bs, p', eb, bl, bo⟩ := compL_all (t := .nm 7) (fe := callF (F_law_bent 12) [(varE 0), (binE ixV (varE 16) (varE 7))]) (sl := [.pot, .sh (.int S), .sh (.int low), .sh (.int W), .sh (rl S low tb), .sh (.tuple [.int (rm0 low), .int (rm1 W low)]), .sh (.int (leastM (rm0 low) (rm1 W low))), .un, .sh (.list cs), a9, .sh (.str (PyData.shown (.list [rl S low tb, .list cs]))), a11, a12, a13, a14, .sh (.int w), .own (.list (lets3 (rm0 low) (rm1 W low) w t ++ lets8 (rm0 low))), .un, .un]) (C := Vok) [.int 0, .int 0, .int 0, .int 1, .int 1, .int 1, .int 0, .int 1] (fun d hd => ⟨_, rfl, fun p => by
      have hc : d = .int 0 ∨ d = .int 1 := by
        simp only [List.mem_cons, List.not_mem_nil, or_false] at hd
        rcases hd with h | h | h | h | h | h | h | h <;> first | exact .inl h | exact .inr h
      generalize lets3 (rm0 low) (rm1 W low) w t ++ lets8 (rm0 low) = L at *
      rcases hc with rfl | rfl
      · exact callF_bent F0 rfl (fun p => by simp only [fillSl, List.length_cons, List.length_nil, List.replicate, List.cons_append, List.nil_append, List.getElem?_cons_zero, List.getElem?_cons_succ, List.set_cons_zero, List.set_cons_succ, Nat.reduceAdd, Nat.reduceSub, Nat.reduceLT, seqS, nxS, setS, dropS, retS, iteS, retV, asg, potS, potDivS, appS, extS, unpS, parS, asgPs, asgP, asgD, asgDs, calm, binE, unE, potE, constE, varE, andE, orE, notE, ifE, tupE, lstE, slE, optE, callE, callF, callKF, methE, isiE, argsE, argsOf, datsOf, resV, newT, newL, shq, shf_true, opF, cF, addV, mulV, ixV, slV, gtK, ltK, leK, geK, subK, addK, mulK, fdivK, modK, powK, intK, absK, isiB, Val.dat, Val.items, flat, flatA, isL, Bool.and_true, Bool.true_and, Bool.false_and, Bool.and_false, if_true, if_false, Bool.false_eq_true, Option.map_some, Option.map_none, Bool.not_true, Bool.not_false, decide_true, decide_false, reduceIte, reduceCtorEq, and_self, true_and, and_true, yesE_ap, sizeLine_eq, Nat.reduceLeDiff, frS, frzL, frz1, frzS, addW, subW, boolInt, revV, tupV, listV, isi2E, setIS, dnewE, get2E, listRgE, tupRgE, rg1R, rg2R, rg3R, eqP_int, eqP_str, neP_int, neP_str, Bool.true_or, Bool.false_or, Bool.or_true, Bool.or_false, Nat.reduceBEq, L0]) p
      · exact callF_bent F1 rfl (fun p => by simp only [fillSl, List.length_cons, List.length_nil, List.replicate, List.cons_append, List.nil_append, List.getElem?_cons_zero, List.getElem?_cons_succ, List.set_cons_zero, List.set_cons_succ, Nat.reduceAdd, Nat.reduceSub, Nat.reduceLT, seqS, nxS, setS, dropS, retS, iteS, retV, asg, potS, potDivS, appS, extS, unpS, parS, asgPs, asgP, asgD, asgDs, calm, binE, unE, potE, constE, varE, andE, orE, notE, ifE, tupE, lstE, slE, optE, callE, callF, callKF, methE, isiE, argsE, argsOf, datsOf, resV, newT, newL, shq, shf_true, opF, cF, addV, mulV, ixV, slV, gtK, ltK, leK, geK, subK, addK, mulK, fdivK, modK, powK, intK, absK, isiB, Val.dat, Val.items, flat, flatA, isL, Bool.and_true, Bool.true_and, Bool.false_and, Bool.and_false, if_true, if_false, Bool.false_eq_true, Option.map_some, Option.map_none, Bool.not_true, Bool.not_false, decide_true, decide_false, reduceIte, reduceCtorEq, and_self, true_and, and_true, yesE_ap, sizeLine_eq, Nat.reduceLeDiff, frS, frzL, frz1, frzS, addW, subW, boolInt, revV, tupV, listV, isi2E, setIS, dnewE, get2E, listRgE, tupRgE, rg1R, rg2R, rg3R, eqP_int, eqP_str, neP_int, neP_str, Bool.true_or, Bool.false_or, Bool.or_true, Bool.or_false, Nat.reduceBEq, L1]) p⟩) p
  have b8 : bs.length = 8 := bl
  have vo : ∀ d ∈ (lets3 (rm0 low) (rm1 W low) w t ++ lets8 (rm0 low)) ++ bs, Vok d := fun d hd => by
    rcases List.mem_append.mp hd with hd | hd
    · rcases List.mem_append.mp hd with hd | hd
      · exact (lo.1 d hd).up (by decide) (by decide) (by decide)
      · exact lo.2 d hd
    · exact bo d hd
  obtain ⟨x12, x13, x14, e⟩ := loop2 R cs (by have := c.n4; omega) c.ok p' (.sh (.int low)) (.sh (.int W)) (.sh (.int (leastM (rm0 low) (rm1 W low)))) a7 a9 (.sh (.str (PyData.shown (.list [rl S low tb, .list cs])))) a11 (.sh (.int w)) (.own (.list (lets3 (rm0 low) (rm1 W low) w t ++ lets8 (rm0 low)))) .un .un _ vo a12 a13 a14
  refine ⟨a7, x12, x13, x14, p', ?_⟩
  generalize PyData.shown (.list [rl S low tb, .list cs]) = sh at *
  generalize rl S low tb = x0 at *
  generalize lets3 (rm0 low) (rm1 W low) w t ++ lets8 (rm0 low) = L at *
  generalize (seqS (parS [13, 14] [(callF F_law_is_letter [(varE 1), (varE 5), (varE 8), (varE 12)]), (callE (cF repr2K) [(varE 12)])])
    (iteS (orE (binE (opF neP) (callE (cF repr2K) [(lstE [(callF F_is_letter [(varE 4), (varE 8), (varE 12)]), (callKF F_is_letter [2, 1, 0] [(varE 12), (varE 8), (varE 4)])])]) (callE (cF repr2K) [(lstE [(varE 13), (varE 13)])])) (binE (opF neP) (callE (cF repr2K) [(varE 12)]) (varE 14))) (retS (constE (.bool false))) nxS)) = B at *
  simp only [fillSl, List.length_cons, List.length_nil, List.replicate, List.cons_append, List.nil_append, List.getElem?_cons_zero, List.getElem?_cons_succ, List.set_cons_zero, List.set_cons_succ, Nat.reduceAdd, Nat.reduceSub, Nat.reduceLT, seqS, nxS, setS, dropS, retS, iteS, retV, asg, potS, potDivS, appS, extS, unpS, parS, asgPs, asgP, asgD, asgDs, calm, binE, unE, potE, constE, varE, andE, orE, notE, ifE, tupE, lstE, slE, optE, callE, callF, callKF, methE, isiE, argsE, argsOf, datsOf, resV, newT, newL, shq, shf_true, opF, cF, addV, mulV, ixV, slV, gtK, ltK, leK, geK, subK, addK, mulK, fdivK, modK, powK, intK, absK, isiB, Val.dat, Val.items, flat, flatA, isL, Bool.and_true, Bool.true_and, Bool.false_and, Bool.and_false, if_true, if_false, Bool.false_eq_true, Option.map_some, Option.map_none, Bool.not_true, Bool.not_false, decide_true, decide_false, reduceIte, reduceCtorEq, and_self, true_and, and_true, yesE_ap, sizeLine_eq, Nat.reduceLeDiff, frS, frzL, frz1, frzS, addW, subW, boolInt, revV, tupV, listV, isi2E, setIS, dnewE, get2E, listRgE, tupRgE, rg1R, rg2R, rg3R, eqP_int, eqP_str, neP_int, neP_str, Bool.true_or, Bool.false_or, Bool.or_true, Bool.or_false, Nat.reduceBEq, forS, itV, seqD, Pu.calm, lcE, itJ, wipeSl, eb, b8, hL]
  exact e

end K94

namespace K94
open PySem PySem.Spec PyProof.Rows L2 Pu

def sched (w n : Int) : List PyData := [.tuple [.str "go", .int w], .tuple [.str "bring", .int w, .int (w + 1), .int 0], .tuple [.str "fall", .int n], .tuple [.str "bring", .int (w + 1), .int w, .int 1000]]
def go0 : PyData := .tuple [.str "go", .int 0]
def edges2 (n : Int) : List PyData := [.list (List.replicate 2000 [go0]).flatten, .list (List.replicate 2001 [go0]).flatten, .list [.tuple [.str "go", .int (n + 1)]], .list [.tuple [.str "bring", .int 0, .int 2, .int 0]], .list [.tuple [.str "bring", .int 0, .int 0, .int 0]], .list [.tuple [.str "bring", .int 0, .int 1, .int 1001]], .list [.list [.str "go", .int 0]], .list [.tuple [.str "go", .int 0, .int 0]], .list [.tuple []]]
theorem step_fit {z : Str} {ns : List Int} (hz : fitB (.str z) = true) (hs : z.cps.size ≤ 20) (hn : ∀ i ∈ ns, i.natAbs ≤ 5000) (hl : ns.length ≤ 5) : Fit 5000 126 1 (.tuple (.str z :: ns.map .int)) := by
  refine (tup_fit (m := 5000) (w := 20) (t := 0) (n := 6) (fun d hd => ?_) (by rw [List.length_cons, List.length_map]; omega)).1
  rcases List.mem_cons.mp hd with rfl | hd
  · exact str_fit hz hs
  · obtain ⟨i, hi, rfl⟩ := List.mem_map.mp hd
    exact small_int0 (hn i hi)
theorem sched_fit {w n : Int} (hw : 0 ≤ w ∧ w ≤ 3) (hn : 0 ≤ n ∧ n ≤ 4) {e : PyData} (he : e = .list (sched w n) ∨ e = .tuple (sched w n)) : Fit 5000 508 2 e := by
  have f := tup_fit (m := 5000) (w := 126) (t := 1) (n := 4) (ds := sched w n) (fun d hd => by
    simp only [sched, List.mem_cons, List.not_mem_nil, or_false] at hd
    rcases hd with rfl | rfl | rfl | rfl
    · exact step_fit (ns := [w]) (by decide +kernel) (by decide +kernel) (fun i hi => by simp only [List.mem_cons, List.not_mem_nil, or_false] at hi; omega) (by simp)
    · exact step_fit (ns := [w, w + 1, 0]) (by decide +kernel) (by decide +kernel) (fun i hi => by simp only [List.mem_cons, List.not_mem_nil, or_false] at hi; omega) (by simp)
    · exact step_fit (ns := [n]) (by decide +kernel) (by decide +kernel) (fun i hi => by simp only [List.mem_cons, List.not_mem_nil, or_false] at hi; omega) (by simp)
    · exact step_fit (ns := [w + 1, w, 1000]) (by decide +kernel) (by decide +kernel) (fun i hi => by simp only [List.mem_cons, List.not_mem_nil, or_false] at hi; omega) (by simp)) (Nat.le_refl _)
  rcases he with rfl | rfl
  · exact f.2
  · exact f.1
theorem flat_rep (n : Nat) (x : PyData) : (List.replicate n [x]).flatten = List.replicate n x := by
  induction n with
  | zero => rfl
  | succ n ih => rw [List.replicate_succ, List.flatten_cons, ih, List.replicate_succ]; rfl
theorem rep_ok {n : Nat} (hn : n ≤ 2001) : Vok (.list (List.replicate n [go0]).flatten) := by
  rw [flat_rep]
  have f : Fit 5000 126 1 go0 := step_fit (ns := [0]) (by decide +kernel) (by decide +kernel) (fun i hi => by simp only [List.mem_cons, List.not_mem_nil, or_false] at hi; omega) (by simp)
  have g : go0.weight = 3 + 1 + 0 := by decide +kernel
  have f' : Fit 5000 5 1 go0 := ⟨f.g, by omega, f.t⟩
  exact ((tup_fit (n := 2001) (fun d hd => by rw [List.eq_of_mem_replicate hd]; exact f') (by rw [List.length_replicate]; exact hn)).2).up (by decide) (by decide) (by decide)
theorem edges2_ok {n : Int} (hn : 0 ≤ n ∧ n ≤ 4) : ∀ d ∈ edges2 n, Vok d := by
  intro d hd
  simp only [edges2, List.mem_cons, List.not_mem_nil, or_false] at hd
  rcases hd with rfl | rfl | rfl | rfl | rfl | rfl | rfl | rfl | rfl
  · exact rep_ok (by decide)
  · exact rep_ok (Nat.le_refl _)
  · refine ((tup_fit (n := 1) (m := 5000) (w := 126) (t := 1) (fun d hd => ?_) (Nat.le_refl _)).2).up (by decide) (by decide) (by decide)
    rw [List.mem_singleton.mp hd]
    exact step_fit (ns := [n + 1]) (by decide +kernel) (by decide +kernel) (fun i hi => by simp only [List.mem_cons, List.not_mem_nil, or_false] at hi; omega) (by simp)
  all_goals exact fitB_ok (by decide +kernel)
theorem mul_go (k : Int) (h : 0 ≤ k ∧ k ≤ 3000) : mulV (.fr (.list [.tuple [.str "go", .int 0]])) (.sh (.int k)) = some (.fr (.list (List.replicate k.toNat [go0]).flatten)) := by
  have hc : -(2 ^ 63) ≤ k ∧ k < 2 ^ 63 ∧ [go0].length * k.toNat ≤ sizeLine := ⟨by omega, by omega, by rw [sizeLine_eq]; simp only [List.length_cons, List.length_nil]; omega⟩
  show (if -(2 ^ 63) ≤ k ∧ k < 2 ^ 63 ∧ [go0].length * k.toNat ≤ sizeLine then some (newL true (List.replicate k.toNat [go0]).flatten) else none) = _
  rw [if_pos hc]
  rfl
theorem part13 {S W : Nat} {low : Int} {tb cs : List PyData} {a5 a6 a7 a9 a11 a12 a13 a14 a16 : Slot} {w : Int} (p : Pot) : (setS 17 (lstE [(tupE [(constE (.str "go")), (varE 15)]), (tupE [(constE (.str "bring")), (varE 15), (binE addW (varE 15) (constE (.int 1))), (constE (.int 0))]), (tupE [(constE (.str "fall")), (callE lenV [(varE 8)])]), (tupE [(constE (.str "bring")), (binE addW (varE 15) (constE (.int 1))), (varE 15), (constE (.int 1000))])])) [.pot, .sh (.int S), .sh (.int low), .sh (.int W), .sh (rl S low tb), a5, a6, a7, .sh (.list cs), a9, .sh (.str (PyData.shown (.list [rl S low tb, .list cs]))), a11, a12, a13, a14, .sh (.int w), a16, .un, .un] p = some (.nx [.pot, .sh (.int S), .sh (.int low), .sh (.int W), .sh (rl S low tb), a5, a6, a7, .sh (.list cs), a9, .sh (.str (PyData.shown (.list [rl S low tb, .list cs]))), a11, a12, a13, a14, .sh (.int w), a16, .own (.list (sched w cs.length)), .un] p) := by
  unfold sched
  generalize PyData.shown (.list [rl S low tb, .list cs]) = sh
  generalize rl S low tb = x0
  generalize hk : (cs.length : Int) = k at *
  simp only [fillSl, List.length_cons, List.length_nil, List.replicate, List.cons_append, List.nil_append, List.getElem?_cons_zero, List.getElem?_cons_succ, List.set_cons_zero, List.set_cons_succ, Nat.reduceAdd, Nat.reduceSub, Nat.reduceLT, seqS, nxS, setS, dropS, retS, iteS, retV, asg, potS, potDivS, appS, extS, unpS, parS, asgPs, asgP, asgD, asgDs, calm, binE, unE, potE, constE, varE, andE, orE, notE, ifE, tupE, lstE, slE, optE, callE, callF, callKF, methE, isiE, argsE, argsOf, datsOf, resV, newT, newL, shq, shf_true, opF, cF, addV, ixV, slV, gtK, ltK, leK, geK, subK, addK, mulK, fdivK, modK, powK, intK, absK, isiB, Val.dat, Val.items, flat, flatA, isL, Bool.and_true, Bool.true_and, Bool.false_and, Bool.and_false, if_true, if_false, Bool.false_eq_true, Option.map_some, Option.map_none, Bool.not_true, Bool.not_false, decide_true, decide_false, reduceIte, reduceCtorEq, and_self, true_and, and_true, yesE_ap, sizeLine_eq, Nat.reduceLeDiff, frS, frzL, frz1, frzS, addW, subW, boolInt, revV, tupV, listV, isi2E, setIS, dnewE, get2E, listRgE, tupRgE, rg1R, rg2R, rg3R, eqP_int, eqP_str, neP_int, neP_str, Bool.true_or, Bool.false_or, Bool.or_true, Bool.or_false, Nat.reduceBEq, lenV, hk]
theorem part14 {S W : Nat} {low : Int} {tb cs : List PyData} {a5 a6 a7 a9 a11 a12 a13 a14 a16 : Slot} {w : Int} (p : Pot) : (setS 11 (lstE [(binE mulV (lstE [(tupE [(constE (.str "go")), (constE (.int 0))])]) (constE (.int 2000))), (binE mulV (lstE [(tupE [(constE (.str "go")), (constE (.int 0))])]) (constE (.int 2001))), (lstE [(tupE [(constE (.str "go")), (binE addW (callE lenV [(varE 8)]) (constE (.int 1)))])]), (lstE [(tupE [(constE (.str "bring")), (constE (.int 0)), (constE (.int 2)), (constE (.int 0))])]), (lstE [(tupE [(constE (.str "bring")), (constE (.int 0)), (constE (.int 0)), (constE (.int 0))])]), (lstE [(tupE [(constE (.str "bring")), (constE (.int 0)), (constE (.int 1)), (constE (.int 1001))])]), (lstE [(lstE [(constE (.str "go")), (constE (.int 0))])]), (lstE [(tupE [(constE (.str "go")), (constE (.int 0)), (constE (.int 0))])]), (lstE [(tupE [])])])) [.pot, .sh (.int S), .sh (.int low), .sh (.int W), .sh (rl S low tb), a5, a6, a7, .sh (.list cs), a9, .sh (.str (PyData.shown (.list [rl S low tb, .list cs]))), a11, a12, a13, a14, .sh (.int w), a16, .own (.list (sched w cs.length)), .un] p = some (.nx [.pot, .sh (.int S), .sh (.int low), .sh (.int W), .sh (rl S low tb), a5, a6, a7, .sh (.list cs), a9, .sh (.str (PyData.shown (.list [rl S low tb, .list cs]))), .own (.list (edges2 cs.length)), a12, a13, a14, .sh (.int w), a16, .own (.list (sched w cs.length)), .un] p) := by
  have m0 := mul_go 2000 (by decide)
  have m1 := mul_go 2001 (by decide)
  have t0 : (2000 : Int).toNat = 2000 := rfl
  have t1 : (2001 : Int).toNat = 2001 := rfl
  rw [t0] at m0
  rw [t1] at m1
  unfold edges2
  generalize (List.replicate 2000 [go0]).flatten = q0 at *
  generalize (List.replicate 2001 [go0]).flatten = q1 at *
  generalize PyData.shown (.list [rl S low tb, .list cs]) = sh
  generalize rl S low tb = x0
  generalize sched w cs.length = sd
  generalize hk : (cs.length : Int) = k at *
  simp only [fillSl, List.length_cons, List.length_nil, List.replicate, List.cons_append, List.nil_append, List.getElem?_cons_zero, List.getElem?_cons_succ, List.set_cons_zero, List.set_cons_succ, Nat.reduceAdd, Nat.reduceSub, Nat.reduceLT, seqS, nxS, setS, dropS, retS, iteS, retV, asg, potS, potDivS, appS, extS, unpS, parS, asgPs, asgP, asgD, asgDs, calm, binE, unE, potE, constE, varE, andE, orE, notE, ifE, tupE, lstE, slE, optE, callE, callF, callKF, methE, isiE, argsE, argsOf, datsOf, resV, newT, newL, shq, shf_true, opF, cF, addV, ixV, slV, gtK, ltK, leK, geK, subK, addK, mulK, fdivK, modK, powK, intK, absK, isiB, Val.dat, Val.items, flat, flatA, isL, Bool.and_true, Bool.true_and, Bool.false_and, Bool.and_false, if_true, if_false, Bool.false_eq_true, Option.map_some, Option.map_none, Bool.not_true, Bool.not_false, decide_true, decide_false, reduceIte, reduceCtorEq, and_self, true_and, and_true, yesE_ap, sizeLine_eq, Nat.reduceLeDiff, frS, frzL, frz1, frzS, addW, subW, boolInt, revV, tupV, listV, isi2E, setIS, dnewE, get2E, listRgE, tupRgE, rg1R, rg2R, rg3R, eqP_int, eqP_str, neP_int, neP_str, Bool.true_or, Bool.false_or, Bool.or_true, Bool.or_false, Nat.reduceBEq, lenV, hk, m0, m1]

theorem part15 {S W : Nat} {low : Int} {tb cs : List PyData} (R : Rule S W low tb) (c : Cuts (leastM (rm0 low) (rm1 W low)) cs) {a5 a6 a7 a9 a11 a12 a13 a14 a16 : Slot} {w : Int} (hw : 0 ≤ w ∧ w ≤ 3) (p : Pot) : ∃ b9 b11 b12 b13 b14 b17 p', (frS [17] (forS (.nm 12) (itV (binE addW (binE addW (lstE [(varE 17), (callE tupV [(varE 17)]), (lstE []), (tupE []), (constE .none), (constE (.int 0)), (constE (.str "go")), dnewE]) (varE 11)) (lcE (.nm 9) (rng1J (constE (.int 14))) yesE (callF (F_law_bent 12) [(varE 0), (varE 17)]) [9]))) (seqS (parS [13, 14] [(callF F_law_is_schedule [(varE 8), (varE 12)]), (callE (cF repr2K) [(varE 12)])])
    (iteS (orE (binE (opF neP) (callE (cF repr2K) [(lstE [(callF F_is_schedule [(varE 4), (varE 8), (varE 12)]), (callKF F_is_schedule [2, 1, 0] [(varE 12), (varE 8), (varE 4)])])]) (callE (cF repr2K) [(lstE [(varE 13), (varE 13)])])) (binE (opF neP) (callE (cF repr2K) [(varE 12)]) (varE 14))) (retS (constE (.bool false))) nxS)))) [.pot, .sh (.int S), .sh (.int low), .sh (.int W), .sh (rl S low tb), a5, a6, a7, .sh (.list cs), a9, .sh (.str (PyData.shown (.list [rl S low tb, .list cs]))), .own (.list (edges2 cs.length)), a12, a13, a14, .sh (.int w), a16, .own (.list (sched w cs.length)), .un] p = some (.nx [.pot, .sh (.int S), .sh (.int low), .sh (.int W), .sh (rl S low tb), a5, a6, a7, .sh (.list cs), b9, .sh (.str (PyData.shown (.list [rl S low tb, .list cs]))), b11, b12, b13, b14, .sh (.int w), a16, b17, .un] p') := by
  have n4 := c.n4
  have hn : 0 ≤ (cs.length : Int) ∧ (cs.length : Int) ≤ 4 := ⟨by omega, by omega⟩
  have fl := sched_fit hw hn (.inl rfl)
  have ft := sched_fit hw hn (.inr rfl)
  have eo := edges2_ok hn
  have el : (edges2 cs.length).length = 9 := rfl
  obtain ⟨bs, p', eb, bl, bo⟩ := compL_all (t := .nm 9) (fe := callF (F_law_bent 12) [(varE 0), (varE 17)]) (sl := [.pot, .sh (.int S), .sh (.int low), .sh (.int W), .sh (rl S low tb), a5, a6, a7, .sh (.list cs), .un, .sh (.str (PyData.shown (.list [rl S low tb, .list cs]))), .own (.list (edges2 cs.length)), a12, a13, a14, .sh (.int w), a16, .sh (.list (sched w cs.length)), .un]) (C := Vok) (rangeD 0 14) (fun d hd => ⟨_, rfl, fun p => callF_bent (fl.up (Nat.le_refl _) (by decide) (by decide)) rfl (fun _ => rfl) p⟩) p
  have b14 : bs.length = 14 := by rw [bl, rng_len]
  have vo : ∀ d ∈ ([PyData.list (sched w cs.length), .tuple (sched w cs.length), .list [], .tuple [], .none, .int 0, .str "go", .dict []] ++ edges2 cs.length) ++ bs, Vok d := fun d hd => by
    rcases List.mem_append.mp hd with hd | hd
    · rcases List.mem_append.mp hd with hd | hd
      · simp only [List.mem_cons, List.not_mem_nil, or_false] at hd
        rcases hd with rfl | rfl | rfl | rfl | rfl | rfl | rfl | rfl
        · exact fl.up (by decide) (by decide) (by decide)
        · exact ft.up (by decide) (by decide) (by decide)
        all_goals exact fitB_ok (by decide +kernel)
      · exact eo d hd
    · exact bo d hd
  obtain ⟨x12, x13, x14, e⟩ := loop3 R cs (by omega) c.ok p' (.sh (.int S)) (.sh (.int low)) (.sh (.int W)) a5 a6 a7 a9 (.sh (.str (PyData.shown (.list [rl S low tb, .list cs])))) (.own (.list (edges2 cs.length))) (.sh (.int w)) a16 (.sh (.list (sched w cs.length))) .un _ vo a12 a13 a14
  refine ⟨a9, .own (.list (edges2 cs.length)), x12, x13, x14, .sh (.list (sched w cs.length)), p', ?_⟩
  have hr : sm62 14 = true := rfl
  have h14 : (14 : Int).toNat = 14 := rfl
  generalize PyData.shown (.list [rl S low tb, .list cs]) = sh at *
  generalize rl S low tb = x0 at *
  generalize edges2 cs.length = es at *
  generalize sched w cs.length = sd at *
  generalize (seqS (parS [13, 14] [(callF F_law_is_schedule [(varE 8), (varE 12)]), (callE (cF repr2K) [(varE 12)])])
    (iteS (orE (binE (opF neP) (callE (cF repr2K) [(lstE [(callF F_is_schedule [(varE 4), (varE 8), (varE 12)]), (callKF F_is_schedule [2, 1, 0] [(varE 12), (varE 8), (varE 4)])])]) (callE (cF repr2K) [(lstE [(varE 13), (varE 13)])])) (binE (opF neP) (callE (cF repr2K) [(varE 12)]) (varE 14))) (retS (constE (.bool false))) nxS)) = B at *
  simp only [fillSl, List.length_cons, List.length_nil, List.replicate, List.cons_append, List.nil_append, List.getElem?_cons_zero, List.getElem?_cons_succ, List.set_cons_zero, List.set_cons_succ, Nat.reduceAdd, Nat.reduceSub, Nat.reduceLT, seqS, nxS, setS, dropS, retS, iteS, retV, asg, potS, potDivS, appS, extS, unpS, parS, asgPs, asgP, asgD, asgDs, calm, binE, unE, potE, constE, varE, andE, orE, notE, ifE, tupE, lstE, slE, optE, callE, callF, callKF, methE, isiE, argsE, argsOf, datsOf, resV, newT, newL, shq, shf_true, opF, cF, addV, mulV, ixV, slV, gtK, ltK, leK, geK, subK, addK, mulK, fdivK, modK, powK, intK, absK, isiB, Val.dat, Val.items, flat, flatA, isL, Bool.and_true, Bool.true_and, Bool.false_and, Bool.and_false, if_true, if_false, Bool.false_eq_true, Option.map_some, Option.map_none, Bool.not_true, Bool.not_false, decide_true, decide_false, reduceIte, reduceCtorEq, and_self, true_and, and_true, yesE_ap, sizeLine_eq, Nat.reduceLeDiff, frS, frzL, frz1, frzS, addW, subW, boolInt, revV, tupV, listV, isi2E, setIS, dnewE, get2E, listRgE, tupRgE, rg1R, rg2R, rg3R, eqP_int, eqP_str, neP_int, neP_str, Bool.true_or, Bool.false_or, Bool.or_true, Bool.or_false, Nat.reduceBEq, forS, itV, seqD, Pu.calm, lcE, rng1J, hr, h14, wipeSl, eb, b14, el, List.length_append]
  exact e
theorem part16 {S W : Nat} {low : Int} {tb cs : List PyData} (R : Rule S W low tb) (c : Cuts (leastM (rm0 low) (rm1 W low)) cs) {a1 a2 a3 a5 a6 a7 a9 a11 a12 a13 a14 a15 a16 a17 a18 : Slot} (p : Pot) : (retS (binE (opF eqP) (callE (cF repr2K) [(lstE [(varE 4), (varE 8)])]) (varE 10))) [.pot, a1, a2, a3, .sh (rl S low tb), a5, a6, a7, .sh (.list cs), a9, .sh (.str (PyData.shown (.list [rl S low tb, .list cs]))), a11, a12, a13, a14, a15, a16, a17, a18] p = some (.rt (.sh (.bool true)) p) := by
  have e := repr_ok (pair_repr R c)
  generalize rl S low tb = x0 at *
  simp only [fillSl, List.length_cons, List.length_nil, List.replicate, List.cons_append, List.nil_append, List.getElem?_cons_zero, List.getElem?_cons_succ, List.set_cons_zero, List.set_cons_succ, Nat.reduceAdd, Nat.reduceSub, Nat.reduceLT, seqS, nxS, setS, dropS, retS, iteS, retV, asg, potS, potDivS, appS, extS, unpS, parS, asgPs, asgP, asgD, asgDs, calm, binE, unE, potE, constE, varE, andE, orE, notE, ifE, tupE, lstE, slE, optE, callE, callF, callKF, methE, isiE, argsE, argsOf, datsOf, resV, newT, newL, shq, shf_true, opF, cF, addV, mulV, ixV, slV, gtK, ltK, leK, geK, subK, addK, mulK, fdivK, modK, powK, intK, absK, isiB, Val.dat, Val.items, flat, flatA, isL, Bool.and_true, Bool.true_and, Bool.false_and, Bool.and_false, if_true, if_false, Bool.false_eq_true, Option.map_some, Option.map_none, Bool.not_true, Bool.not_false, decide_true, decide_false, reduceIte, reduceCtorEq, and_self, true_and, and_true, yesE_ap, sizeLine_eq, Nat.reduceLeDiff, frS, frzL, frz1, frzS, addW, subW, boolInt, revV, tupV, listV, isi2E, setIS, dnewE, get2E, listRgE, tupRgE, rg1R, rg2R, rg3R, eqP_int, eqP_str, neP_int, neP_str, Bool.true_or, Bool.false_or, Bool.or_true, Bool.or_false, Nat.reduceBEq, e, eq1]

theorem math (p : Pot) : ∃ p', F_law_right [.pot] p = some (.sh (.bool true), p') := by
  obtain ⟨S, W, low, p1, hS, hW, h0, h1, e1⟩ := part1 p
  obtain ⟨tb, p2, R, e2⟩ := part2 hS hW h0 h1 p1
  have e3 := part3 (S := S) (W := W) (low := low) (tb := tb) p2
  obtain ⟨a, p4, a0, a1, e4⟩ := part4 (S := S) (W := W) (low := low) (tb := tb) p2
  obtain ⟨cs, a7, a9, p5, c, e5⟩ := part5 (S := S) (tb := tb) hW h0 h1 ⟨a0, a1⟩ p4
  have hb := least_bd hW h0 h1
  have r0 : 0 ≤ rm0 low ∧ rm0 low ≤ 4 := ⟨hb.2.2.1, hb.2.2.2.1⟩
  have r1 : 0 ≤ rm1 W low ∧ rm1 W low ≤ 4 := ⟨hb.2.2.2.2.1, by omega⟩
  have e6 := part6 R c (a7 := a7) (a9 := a9) p5
  have e7 := part7 (S := S) (tb := tb) (cs := cs) hW h0 h1 (a7 := a7) (a9 := a9) p5
  obtain ⟨b9, b11, b12, b13, b14, p8, e8⟩ := part8 R c (a7 := a7) (a9 := a9) ⟨hb.1, hb.2.1⟩ p5
  obtain ⟨w, p9, w0, w3, e9⟩ := part9 R c (a7 := a7) (a9 := b9) (a11 := b11) (a12 := b12) (a13 := b13) (a14 := b14) p8
  obtain ⟨t, p10, t0, t4, e10⟩ := part10 (S := S) (tb := tb) (cs := cs) r0 r1 (a7 := a7) (a9 := b9) (a11 := b11) (a12 := b12) (a13 := b13) (a14 := b14) (w := w) p9
  have e11 := part11 (S := S) (W := W) (tb := tb) (cs := cs) r0 (a7 := a7) (a9 := b9) (a11 := b11) (a12 := b12) (a13 := b13) (a14 := b14) (w := w) (t := t) p10
  obtain ⟨c7, c12, c13, c14, p12, e12⟩ := part12 R c r0 r1 (a7 := a7) (a9 := b9) (a11 := b11) (a12 := b12) (a13 := b13) (a14 := b14) ⟨w0, w3⟩ ⟨t0, t4⟩ p10
  have e13 := fun a5 a6 a16 => part13 (S := S) (W := W) (low := low) (tb := tb) (cs := cs) (a5 := a5) (a6 := a6) (a7 := c7) (a9 := b9) (a11 := b11) (a12 := c12) (a13 := c13) (a14 := c14) (a16 := a16) (w := w) p12
  have e14 := fun a5 a6 a16 => part14 (S := S) (W := W) (low := low) (tb := tb) (cs := cs) (a5 := a5) (a6 := a6) (a7 := c7) (a9 := b9) (a11 := b11) (a12 := c12) (a13 := c13) (a14 := c14) (a16 := a16) (w := w) p12
  obtain ⟨d9, d11, d12, d13, d14, d17, p15, e15⟩ := part15 R c (a5 := .sh (.tuple [.int (rm0 low), .int (rm1 W low)])) (a6 := .sh (.int (leastM (rm0 low) (rm1 W low)))) (a7 := c7) (a9 := b9) (a11 := b11) (a12 := c12) (a13 := c13) (a14 := c14) (a16 := .own (.list (lets3 (rm0 low) (rm1 W low) w t ++ lets8 (rm0 low)))) ⟨w0, w3⟩ p12
  have e16 := part16 R c (a1 := .sh (.int S)) (a2 := .sh (.int low)) (a3 := .sh (.int W)) (a5 := .sh (.tuple [.int (rm0 low), .int (rm1 W low)])) (a6 := .sh (.int (leastM (rm0 low) (rm1 W low)))) (a7 := c7) (a9 := d9) (a11 := d11) (a12 := d12) (a13 := d13) (a14 := d14) (a15 := .sh (.int w)) (a16 := .own (.list (lets3 (rm0 low) (rm1 W low) w t ++ lets8 (rm0 low)))) (a17 := d17) (a18 := .un) p15
  refine ⟨p15, ?_⟩
  have ef : fillSl 19 [.pot] = [.pot, .un, .un, .un, .un, .un, .un, .un, .un, .un, .un, .un, .un, .un, .un, .un, .un, .un, .un] := rfl
  have eB : B_law_right [.pot, .un, .un, .un, .un, .un, .un, .un, .un, .un, .un, .un, .un, .un, .un, .un, .un, .un, .un] p = some (.rt (.sh (.bool true)) p15) := by
    unfold B_law_right
    exact (seq_nx e1).trans ((seq_nx e2).trans ((seq_nx e3).trans ((seq_nx e4).trans ((seq_nx e5).trans ((seq_nx e6).trans ((seq_nx e7).trans ((seq_nx e8).trans ((seq_nx e9).trans ((seq_nx e10).trans ((seq_nx e11).trans ((seq_nx e12).trans ((seq_nx (e13 _ _ _)).trans ((seq_nx (e14 _ _ _)).trans ((seq_nx e15).trans e16))))))))))))))
  unfold F_law_right defF
  rw [ef, eB]

end K94
namespace K94
open PySem PySem.Spec PyProof.Rows L2 Pu
set_option maxHeartbeats 0
/-! ### the text -/
def topS (i : Nat) : Stmt := PySem.Challenge.pw_nearcells_k94_any_value_as_cuts_letter_s.main.body.getD i (.Pass ⟨0, 0, 0, 0⟩)
abbrev s__law_draw : Stmt := topS 46
abbrev s__law_pick : Stmt := topS 47
abbrev s__law_bent : Stmt := topS 57
abbrev s__law_is_whole : Stmt := topS 52
abbrev s__law_is_cuts : Stmt := topS 53
abbrev s__law_is_letter : Stmt := topS 54
abbrev s__law_is_step : Stmt := topS 55
abbrev s__law_is_schedule : Stmt := topS 56
abbrev s__law_words : Stmt := topS 50
abbrev s_power_by : Stmt := topS 6
abbrev s_width_in : Stmt := topS 20
abbrev s_is_near : Stmt := topS 21
abbrev s_is_tuple_of : Stmt := topS 3
abbrev s_is_integer : Stmt := topS 1
abbrev s_is_within : Stmt := topS 2
abbrev s_is_states_any : Stmt := topS 14
abbrev s_is_word_of : Stmt := topS 15
abbrev s_is_rule_any : Stmt := topS 22
abbrev s_want_rule : Stmt := topS 23
abbrev s_is_listed : Stmt := topS 4
abbrev s_rims_in : Stmt := topS 29
abbrev s_are_cuts : Stmt := topS 31
abbrev s_is_cuts : Stmt := topS 34
abbrev s_want_cuts : Stmt := topS 33
abbrev s_rim_letters : Stmt := topS 30
abbrev s_is_letter_of : Stmt := topS 32
abbrev s_is_letter : Stmt := topS 35
abbrev s_is_word_in : Stmt := topS 5
abbrev s_is_work : Stmt := topS 41
abbrev s_are_works : Stmt := topS 42
abbrev s_is_schedule : Stmt := topS 43
abbrev s__law_right : Stmt := topS 58
abbrev s__law_pot : Stmt := topS 45
abbrev s_law : Stmt := topS 59
structure Df (K : Fg) (mg : Str → Option Value) (x : Str) (st : Stmt) (ps : List Str) (f : Addr) (fd : FuncData) : Prop where
  F : Fun K x x st f fd
  m : mg x = some (.ref f)
  b : Binds K fd ps []
structure Tx (K : Fg) (mg : Str → Option Value) : Prop where
  d__law_draw : ∃ f fd, Df K mg "_law_draw" s__law_draw ["pot", "many"] f fd
  d__law_pick : ∃ f fd, Df K mg "_law_pick" s__law_pick ["pot", "some"] f fd
  d__law_bent : ∃ f fd, Df K mg "_law_bent" s__law_bent ["pot", "value"] f fd
  d__law_is_whole : ∃ f fd, Df K mg "_law_is_whole" s__law_is_whole ["value", "low", "high"] f fd
  d__law_is_cuts : ∃ f fd, Df K mg "_law_is_cuts" s__law_is_cuts ["rims", "value"] f fd
  d__law_is_letter : ∃ f fd, Df K mg "_law_is_letter" s__law_is_letter ["states", "rims", "cuts", "value"] f fd
  d__law_is_step : ∃ f fd, Df K mg "_law_is_step" s__law_is_step ["cuts", "value"] f fd
  d__law_is_schedule : ∃ f fd, Df K mg "_law_is_schedule" s__law_is_schedule ["cuts", "value"] f fd
  d__law_words : ∃ f fd, Df K mg "_law_words" s__law_words ["states", "many"] f fd
  d_power_by : ∃ f fd, Df K mg "power_by" s_power_by ["base", "many"] f fd
  d_width_in : ∃ f fd, Df K mg "width_in" s_width_in ["rule"] f fd
  d_is_near : ∃ f fd, Df K mg "is_near" s_is_near ["rule"] f fd
  d_is_tuple_of : ∃ f fd, Df K mg "is_tuple_of" s_is_tuple_of ["value", "many"] f fd
  d_is_integer : ∃ f fd, Df K mg "is_integer" s_is_integer ["value"] f fd
  d_is_within : ∃ f fd, Df K mg "is_within" s_is_within ["value", "low", "high"] f fd
  d_is_states_any : ∃ f fd, Df K mg "is_states_any" s_is_states_any ["value"] f fd
  d_is_word_of : ∃ f fd, Df K mg "is_word_of" s_is_word_of ["states", "value"] f fd
  d_is_rule_any : ∃ f fd, Df K mg "is_rule_any" s_is_rule_any ["value"] f fd
  d_want_rule : ∃ f fd, Df K mg "want_rule" s_want_rule ["value"] f fd
  d_is_listed : ∃ f fd, Df K mg "is_listed" s_is_listed ["value"] f fd
  d_rims_in : ∃ f fd, Df K mg "rims_in" s_rims_in ["rule"] f fd
  d_are_cuts : ∃ f fd, Df K mg "are_cuts" s_are_cuts ["rule", "value"] f fd
  d_is_cuts : ∃ f fd, Df K mg "is_cuts" s_is_cuts ["rule", "value"] f fd
  d_want_cuts : ∃ f fd, Df K mg "want_cuts" s_want_cuts ["rule", "cuts"] f fd
  d_rim_letters : ∃ f fd, Df K mg "rim_letters" s_rim_letters ["rule", "cuts"] f fd
  d_is_letter_of : ∃ f fd, Df K mg "is_letter_of" s_is_letter_of ["rule", "cuts", "value"] f fd
  d_is_letter : ∃ f fd, Df K mg "is_letter" s_is_letter ["rule", "cuts", "value"] f fd
  d_is_word_in : ∃ f fd, Df K mg "is_word_in" s_is_word_in ["value", "words"] f fd
  d_is_work : ∃ f fd, Df K mg "is_work" s_is_work ["cuts", "value"] f fd
  d_are_works : ∃ f fd, Df K mg "are_works" s_are_works ["cuts", "value"] f fd
  d_is_schedule : ∃ f fd, Df K mg "is_schedule" s_is_schedule ["rule", "cuts", "value"] f fd
  d__law_right : ∃ f fd, Df K mg "_law_right" s__law_right ["pot"] f fd
  d__law_pot : ∃ f fd, Df K mg "_law_pot" s__law_pot ["script", "k"] f fd
  d_law : ∃ f fd, Df K mg "law" s_law ["script"] f fd
  z_abs : mg "abs" = none
  z_all : mg "all" = none
  z_bool : mg "bool" = none
  z_divmod : mg "divmod" = none
  z_int : mg "int" = none
  z_isinstance : mg "isinstance" = none
  z_len : mg "len" = none
  z_list : mg "list" = none
  z_max : mg "max" = none
  z_min : mg "min" = none
  z_range : mg "range" = none
  z_repr : mg "repr" = none
  z_sorted : mg "sorted" = none
  z_str : mg "str" = none
  z_tuple : mg "tuple" = none
  z_zip : mg "zip" = none
  g_BRING : ∃ t, mg "BRING" = some (.str (Str.ofString "bring") t)
  g_FALL : ∃ t, mg "FALL" = some (.str (Str.ofString "fall") t)
  g_GO : ∃ t, mg "GO" = some (.str (Str.ofString "go") t)
  g_LEAST_STATES : ∃ t, mg "LEAST_STATES" = some (.int 2 t)
  g_LETTER : ∃ t, mg "LETTER" = some (.str (Str.ofString "letter") t)
  g_MOST_CUT : ∃ t, mg "MOST_CUT" = some (.int 400 t)
  g_MOST_CUTS : ∃ t, mg "MOST_CUTS" = some (.int 8 t)
  g_MOST_LOW : ∃ t, mg "MOST_LOW" = some (.int 100 t)
  g_MOST_STATES : ∃ t, mg "MOST_STATES" = some (.int 8 t)
  g_MOST_STEPS : ∃ t, mg "MOST_STEPS" = some (.int 2000 t)
  g_MOST_TABLE : ∃ t, mg "MOST_TABLE" = some (.int 4096 t)
  g_MOST_TICK : ∃ t, mg "MOST_TICK" = some (.int 1000 t)
  g_RULE : ∃ t, mg "RULE" = some (.str (Str.ofString "rule") t)
theorem kw_is_cuts_1_0 {K : Fg} {f : Addr} {fd : FuncData} (F : Fun K "is_cuts" "is_cuts" s_is_cuts f fd) : KwBinds K fd ["rule", "value"] ["value", "rule"] [1, 0] := by
  obtain ⟨oc, od, kV, doc, pm, an, cdv, ct, osl, rfl, lk, hcd⟩ := F.ex
  exact fun s ws _ hl => match ws, hl with | [_, _], _ => .of_eq rfl
theorem kw_is_letter_2_1_0 {K : Fg} {f : Addr} {fd : FuncData} (F : Fun K "is_letter" "is_letter" s_is_letter f fd) : KwBinds K fd ["rule", "cuts", "value"] ["value", "cuts", "rule"] [2, 1, 0] := by
  obtain ⟨oc, od, kV, doc, pm, an, cdv, ct, osl, rfl, lk, hcd⟩ := F.ex
  exact fun s ws _ hl => match ws, hl with | [_, _, _], _ => .of_eq rfl
theorem kw_is_schedule_2_1_0 {K : Fg} {f : Addr} {fd : FuncData} (F : Fun K "is_schedule" "is_schedule" s_is_schedule f fd) : KwBinds K fd ["rule", "cuts", "value"] ["value", "cuts", "rule"] [2, 1, 0] := by
  obtain ⟨oc, od, kV, doc, pm, an, cdv, ct, osl, rfl, lk, hcd⟩ := F.ex
  exact fun s ws _ hl => match ws, hl with | [_, _, _], _ => .of_eq rfl
section
variable {P : Program} {w : World} {K : Fg} {mg : Str → Option Value} {base : Heap}
theorem sc__law_draw : FnScope ["pot", "many", "digit"] ["pot", "many"] (defScope s__law_draw) := ⟨rfl, rfl, rfl, by decide +kernel, rfl, by decide +kernel, by decide +kernel⟩
theorem ok_law_draw (T : Tx K mg) : ∃ f fd, Df K mg "_law_draw" s__law_draw ["pot", "many"] f fd ∧ FnG P w K mg base 1 f fd ["pot", "many"] F_law_draw := by
  obtain ⟨f, fd, D⟩ := T.d__law_draw
  have z_divmod := T.z_divmod
  have z_int := T.z_int
  have nd := sc__law_draw.nd
  refine ⟨f, fd, D, FnG.of (sm := B_law_draw) D.F sc__law_draw fun cdv A outer s H hgd hr => ?_⟩
  exact (cb_cons (cs_if (ct_cmp op_gt ops_gt (ce_pot0 0) ce_int (nomark _)) (cb_cons (cs_potDiv 0 2 rfl nd (ce_var 1) z_divmod)
      (cb_one (cs_ret (ce_var 2)))) cb_nil)
      (cb_cons (cs_pot1 0 (ce_bin op_mod ops_mod (ce_callTy call_int1 cs_int z_int (by decide +kernel) (ca_cons (ce_bin (op_add_bi.or opr_add) (ops_addW ops_add) (ce_bin opr_mul ops_mul4 (ce_pot1 0) ce_int) ce_int) ca_nil)) ce_int))
      (cb_one (cs_ret (ce_bin op_mod ops_mod (ce_callTy call_int1 cs_int z_int (by decide +kernel) (ca_cons (ce_bin op_fdiv ops_fdiv (ce_bin op_mod ops_mod (ce_callTy call_int1 cs_int z_int (by decide +kernel) (ca_cons (ce_bin opr_mul ops_mul4 (ce_pot1 0) (ce_pot1 0)) ca_nil)) ce_int) ce_int) ca_nil)) (ce_var 1))))))
theorem sc__law_pick : FnScope ["pot", "some"] ["pot", "some"] (defScope s__law_pick) := ⟨rfl, rfl, rfl, by decide +kernel, rfl, by decide +kernel, by decide +kernel⟩
theorem ok_law_pick (T : Tx K mg) : ∃ f fd, Df K mg "_law_pick" s__law_pick ["pot", "some"] f fd ∧ FnG P w K mg base 2 f fd ["pot", "some"] F_law_pick := by
  obtain ⟨f, fd, D⟩ := T.d__law_pick
  obtain ⟨_, _, D__law_draw, G__law_draw⟩ := ok_law_draw (P := P) (w := w) (base := base) T
  have z_len := T.z_len
  have nd := sc__law_pick.nd
  refine ⟨f, fd, D, FnG.of (sm := B_law_pick) D.F sc__law_pick fun cdv A outer s H hgd hr => ?_⟩
  exact (cb_one (cs_ret (ce_ix (ce_var 1) (ce_call G__law_draw hgd (hr.mono (by decide)) D__law_draw.m D__law_draw.F.kp D__law_draw.b (ca_cons (ce_var 0) (ca_cons (ce_callB call_len cs_len z_len (by decide +kernel) (ca_cons (ce_var 1) ca_nil)) ca_nil))))))
theorem sc__law_bent : FnScope ["pot", "value", "at", "way", "some", "odds"] ["pot", "value"] (defScope s__law_bent) := ⟨rfl, rfl, rfl, by decide +kernel, rfl, by decide +kernel, by decide +kernel⟩
theorem ok_law_bent (T : Tx K mg) : ∃ f fd, Df K mg "_law_bent" s__law_bent ["pot", "value"] f fd ∧ ∀ j, FnG P w K mg base (2 + j) f fd ["pot", "value"] (F_law_bent j) := by
  obtain ⟨f, fd, D⟩ := T.d__law_bent
  obtain ⟨_, _, D__law_draw, G__law_draw⟩ := ok_law_draw (P := P) (w := w) (base := base) T
  obtain ⟨_, _, D__law_pick, G__law_pick⟩ := ok_law_pick (P := P) (w := w) (base := base) T
  have z_int := T.z_int
  have z_isinstance := T.z_isinstance
  have z_len := T.z_len
  have z_list := T.z_list
  have z_tuple := T.z_tuple
  have nd := sc__law_bent.nd
  refine ⟨f, fd, D, fun j => ?_⟩
  have D__law_bent := D
  induction j with
  | zero => exact FnG.never fun _ _ => rfl
  | succ j G__law_bent =>
    refine FnG.of (k := 2 + j) (sm := B_law_bent (F_law_bent j)) D.F sc__law_bent fun cdv A outer s H hgd hr => ?_
    exact (cb_cons (cs_if (CW.t (cw_and (ct_val (ce_isi2 (ce_var 1) z_isinstance z_tuple z_list (by decide +kernel) (by decide +kernel))) (cw_and (ct_cmp op_gt ops_gt (ce_callB call_len cs_len z_len (by decide +kernel) (ca_cons (ce_var 1) ca_nil)) ce_int (nomark _)) (cw_and1 (ct_cmp op_gt ops_gt (ce_call G__law_draw hgd (hr.mono (by omega)) D__law_draw.m D__law_draw.F.kp D__law_draw.b (ca_cons (ce_var 0) (ca_cons ce_int ca_nil))) ce_int (nomark _)))))) (cb_cons (cs_par2 2 3 rfl nd (cp_cons (ce_call G__law_draw hgd (hr.mono (by omega)) D__law_draw.m D__law_draw.F.kp D__law_draw.b (ca_cons (ce_var 0) (ca_cons (ce_callB call_len cs_len z_len (by decide +kernel) (ca_cons (ce_var 1) ca_nil)) ca_nil))) (cp_cons (ce_call G__law_draw hgd (hr.mono (by omega)) D__law_draw.m D__law_draw.F.kp D__law_draw.b (ca_cons (ce_var 0) (ca_cons ce_int ca_nil))) cp_nil)) (by rfl))
      (cb_cons (cs_if (ct_cmp (opr_eqP hr.units) ops_eqP (ce_var 3) ce_int (nomark _)) (cb_one (cs_ret (ce_bin (op_add_bi.or opr_add) (ops_addW ops_add) (ce_slice (ce_var 1) co_none (co_some (ce_var 2))) (ce_slice (ce_var 1) (co_some (ce_bin (op_add_bi.or opr_add) (ops_addW ops_add) (ce_var 2) ce_int)) co_none)))) cb_nil)
      (cb_cons (cs_if (ct_cmp (opr_eqP hr.units) ops_eqP (ce_var 3) ce_int (nomark _)) (cb_one (cs_ret (ce_bin (op_add_bi.or opr_add) (ops_addW ops_add) (ce_slice (ce_var 1) co_none (co_some (ce_bin (op_add_bi.or opr_add) (ops_addW ops_add) (ce_var 2) ce_int))) (ce_slice (ce_var 1) (co_some (ce_var 2)) co_none)))) cb_nil)
      (cb_cons (cs_if (ct_cmp (opr_eqP hr.units) ops_eqP (ce_var 3) ce_int (nomark _)) (cb_one (cs_ret (ce_rev (ce_var 1)))) cb_nil)
      (cb_cons (cs_if (ct_cmp (opr_eqP hr.units) ops_eqP (ce_var 3) ce_int (nomark _)) (cb_one (cs_ret (ce_if (ct_val (ce_isi (ce_var 1) z_isinstance z_tuple (by decide +kernel))) (ce_callTy call_list_of cs_list z_list (by decide +kernel) (ca_cons (ce_var 1) ca_nil)) (ce_callTy call_tuple_of cs_tuple z_tuple (by decide +kernel) (ca_cons (ce_var 1) ca_nil))))) cb_nil)
      (cb_cons (cs_set 4 nd (ce_callTy call_list_of cs_list z_list (by decide +kernel) (ca_cons (ce_var 1) ca_nil)))
      (cb_cons (cs_setI 4 (ce_call G__law_bent hgd (hr.mono (by omega)) D__law_bent.m D__law_bent.F.kp D__law_bent.b (ca_cons (ce_var 0) (ca_cons (ce_ix (ce_var 1) (ce_var 2)) ca_nil))) (ce_var 2))
      (cb_one (cs_ret (ce_if (ct_val (ce_isi (ce_var 1) z_isinstance z_list (by decide +kernel))) (ce_var 4) (ce_callTy call_tuple_of cs_tuple z_tuple (by decide +kernel) (ca_cons (ce_var 4) ca_nil)))))))))))) cb_nil)
      (cb_cons (cs_set 5 nd (ce_lst (ca_cons ce_non (ca_cons ce_int (ca_cons ce_int (ca_cons ce_int (ca_cons (ce_neg ce_int) (ca_cons ce_bl (ca_cons ce_str (ca_cons ce_str (ca_cons ce_str (ca_cons ce_str (ca_cons ce_str (ca_cons (ce_tup ca_nil) (ca_cons (ce_lst ca_nil) (ca_cons ce_dnew (ca_cons ce_int (ca_cons ce_int (ca_cons ce_int (ca_cons ce_int (ca_cons ce_int (ca_cons ce_int (ca_cons (ce_tup (ca_cons ce_int ca_nil)) (ca_cons (ce_tup (ca_cons ce_int (ca_cons ce_int ca_nil))) (ca_cons ce_str ca_nil)))))))))))))))))))))))))
      (cb_one (cs_ret (ce_call G__law_pick hgd (hr.mono (by omega)) D__law_pick.m D__law_pick.F.kp D__law_pick.b (ca_cons (ce_var 0) (ca_cons (ce_bin (op_add_bi.or opr_add) (ops_addW ops_add) (ce_var 5) (ce_if (ct_val (ce_isi (ce_var 1) z_isinstance z_int (by decide +kernel))) (ce_lst (ca_cons (ce_bin (op_add_bi.or opr_add) (ops_addW ops_add) (ce_var 1) ce_int) (ca_cons (ce_bin (op_sub_bi.or op_sub) (ops_subW ops_sub) (ce_var 1) ce_int) ca_nil))) (ce_lst ca_nil))) ca_nil)))))))
theorem sc__law_is_whole : FnScope ["value", "low", "high"] ["value", "low", "high"] (defScope s__law_is_whole) := ⟨rfl, rfl, rfl, by decide +kernel, rfl, by decide +kernel, by decide +kernel⟩
theorem ok_law_is_whole (T : Tx K mg) : ∃ f fd, Df K mg "_law_is_whole" s__law_is_whole ["value", "low", "high"] f fd ∧ FnG P w K mg base 1 f fd ["value", "low", "high"] F_law_is_whole := by
  obtain ⟨f, fd, D⟩ := T.d__law_is_whole
  have z_bool := T.z_bool
  have z_int := T.z_int
  have z_isinstance := T.z_isinstance
  have nd := sc__law_is_whole.nd
  refine ⟨f, fd, D, FnG.of (sm := B_law_is_whole) D.F sc__law_is_whole fun cdv A outer s H hgd hr => ?_⟩
  exact (cb_one (cs_ret (ce_and (ce_isi (ce_var 0) z_isinstance z_int (by decide +kernel)) (ce_and (ce_not (ce_isi (ce_var 0) z_isinstance z_bool (by decide +kernel))) (ce_one (ce_chain op_le ops_le op_le ops_le (ce_var 1) (ce_var 0) (ce_var 2)))))))
theorem sc__law_is_cuts : FnScope ["rims", "value", "near", "far", "one"] ["rims", "value"] (defScope s__law_is_cuts) := ⟨rfl, rfl, rfl, by decide +kernel, rfl, by decide +kernel, by decide +kernel⟩
theorem ok_law_is_cuts (T : Tx K mg) : ∃ f fd, Df K mg "_law_is_cuts" s__law_is_cuts ["rims", "value"] f fd ∧ FnG P w K mg base 2 f fd ["rims", "value"] F_law_is_cuts := by
  obtain ⟨f, fd, D⟩ := T.d__law_is_cuts
  obtain ⟨_, _, D__law_is_whole, G__law_is_whole⟩ := ok_law_is_whole (P := P) (w := w) (base := base) T
  have z_all := T.z_all
  have z_isinstance := T.z_isinstance
  have z_len := T.z_len
  have z_list := T.z_list
  have z_max := T.z_max
  have z_tuple := T.z_tuple
  have z_zip := T.z_zip
  have nd := sc__law_is_cuts.nd
  refine ⟨f, fd, D, FnG.of (sm := B_law_is_cuts) D.F sc__law_is_cuts fun cdv A outer s H hgd hr => ?_⟩
  exact (cb_cons (cs_if (CW.t (cw_or (ct_not (ct_val (ce_isi2 (ce_var 1) z_isinstance z_list z_tuple (by decide +kernel) (by decide +kernel)))) (cw_or (ct_not (ct_chain op_le ops_le op_le ops_le ce_int (ce_callB call_len cs_len z_len (by decide +kernel) (ca_cons (ce_var 1) ca_nil)) ce_int)) (cw_or1 (ct_not (ct_val (ce_callB (cr_all rfl) cs_all z_all (by decide +kernel) (ca_cons (ce_lc [("one", 4)] rfl nd (cj_val (ce_var 1)) (blkOk_by (N := ["rims", "value", "near", "far", "one"]) (sc := defScope s__law_is_cuts) (by decide +kernel)) (fun _ _ _ _ _ => (cg_nm 4 nd)) (fun _ _ _ _ _ => cts_nil) (fun _ _ _ _ _ => (ce_call G__law_is_whole hgd (hr.mono (by decide)) D__law_is_whole.m D__law_is_whole.F.kp D__law_is_whole.b (ca_cons (ce_var 4) (ca_cons (ce_neg ce_int) (ca_cons ce_int ca_nil)))))) ca_nil)))))))) (cb_one (cs_ret ce_bl)) cb_nil)
      (cb_one (cs_ret (ce_callB (cr_all rfl) cs_all z_all (by decide +kernel) (ca_cons (ce_lc [("near", 2), ("far", 3)] rfl nd (cj_zip z_zip (ce_var 1) (ce_slice (ce_var 1) (co_some ce_int) co_none)) (blkOk_by (N := ["rims", "value", "near", "far", "one"]) (sc := defScope s__law_is_cuts) (by decide +kernel)) (fun _ _ _ _ _ => (cg_tp rfl (cgs_cons (cg_nm 2 nd) (cgs_cons (cg_nm 3 nd) cgs_nil)))) (fun _ _ _ _ _ => cts_nil) (fun _ _ _ _ _ => (ce_cmp op_ge ops_ge (ce_bin (op_sub_bi.or op_sub) (ops_subW ops_sub) (ce_var 3) (ce_var 2)) (ce_callB (call_max3Nu rfl) cs_max3 z_max (by decide +kernel) (ca_cons ce_int (ca_cons (ce_ix (ce_var 0) ce_int) (ca_cons (ce_ix (ce_var 0) ce_int) ca_nil)))) (nomark _)))) ca_nil)))))
theorem sc__law_is_letter : FnScope ["states", "rims", "cuts", "value", "size", "one"] ["states", "rims", "cuts", "value"] (defScope s__law_is_letter) := ⟨rfl, rfl, rfl, by decide +kernel, rfl, by decide +kernel, by decide +kernel⟩
theorem ok_law_is_letter (T : Tx K mg) : ∃ f fd, Df K mg "_law_is_letter" s__law_is_letter ["states", "rims", "cuts", "value"] f fd ∧ FnG P w K mg base 2 f fd ["states", "rims", "cuts", "value"] F_law_is_letter := by
  obtain ⟨f, fd, D⟩ := T.d__law_is_letter
  obtain ⟨_, _, D__law_is_whole, G__law_is_whole⟩ := ok_law_is_whole (P := P) (w := w) (base := base) T
  have z_all := T.z_all
  have z_isinstance := T.z_isinstance
  have z_len := T.z_len
  have z_str := T.z_str
  have z_tuple := T.z_tuple
  have nd := sc__law_is_letter.nd
  refine ⟨f, fd, D, FnG.of (sm := B_law_is_letter) D.F sc__law_is_letter fun cdv A outer s H hgd hr => ?_⟩
  exact (cb_cons (cs_if (CW.t (cw_or (ct_not (ct_val (ce_isi (ce_var 3) z_isinstance z_tuple (by decide +kernel)))) (cw_or (ct_cmp (opr_neP hr.units) ops_neP (ce_callB call_len cs_len z_len (by decide +kernel) (ca_cons (ce_var 3) ca_nil)) ce_int (nomark _)) (cw_or (ct_not (ct_val (ce_isi (ce_ix (ce_var 3) ce_int) z_isinstance z_str (by decide +kernel)))) (cw_or1 (ct_cmp (opr_neP hr.units) ops_neP (ce_ix (ce_var 3) ce_int) ce_str (nomark _))))))) (cb_one (cs_ret ce_bl)) cb_nil)
      (cb_cons (cs_if (CW.t (cw_or (ct_not (ct_val (ce_callB (cr_all rfl) cs_all z_all (by decide +kernel) (ca_cons (ce_lc [("one", 5)] rfl nd (cj_val (ce_slice (ce_var 3) (co_some ce_int) (co_some ce_int))) (blkOk_by (N := ["states", "rims", "cuts", "value", "size", "one"]) (sc := defScope s__law_is_letter) (by decide +kernel)) (fun _ _ _ _ _ => (cg_nm 5 nd)) (fun _ _ _ _ _ => cts_nil) (fun _ _ _ _ _ => (ce_call G__law_is_whole hgd (hr.mono (by decide)) D__law_is_whole.m D__law_is_whole.F.kp D__law_is_whole.b (ca_cons (ce_var 5) (ca_cons ce_int (ca_cons (ce_callB call_len cs_len z_len (by decide +kernel) (ca_cons (ce_var 2) ca_nil)) ca_nil)))))) ca_nil)))) (cw_or1 (ct_not (ct_val (ce_call G__law_is_whole hgd (hr.mono (by decide)) D__law_is_whole.m D__law_is_whole.F.kp D__law_is_whole.b (ca_cons (ce_ix (ce_var 3) ce_int) (ca_cons ce_int (ca_cons ce_int ca_nil))))))))) (cb_one (cs_ret ce_bl)) cb_nil)
      (cb_cons (cs_if (CW.t (cw_or (ct_not (ct_val (ce_isi (ce_ix (ce_var 3) ce_int) z_isinstance z_tuple (by decide +kernel)))) (cw_or1 (ct_not (ct_val (ce_callB (cr_all rfl) cs_all z_all (by decide +kernel) (ca_cons (ce_lc [("one", 5)] rfl nd (cj_val (ce_ix (ce_var 3) ce_int)) (blkOk_by (N := ["states", "rims", "cuts", "value", "size", "one"]) (sc := defScope s__law_is_letter) (by decide +kernel)) (fun _ _ _ _ _ => (cg_nm 5 nd)) (fun _ _ _ _ _ => cts_nil) (fun _ _ _ _ _ => (ce_call G__law_is_whole hgd (hr.mono (by decide)) D__law_is_whole.m D__law_is_whole.F.kp D__law_is_whole.b (ca_cons (ce_var 5) (ca_cons ce_int (ca_cons (ce_bin (op_sub_bi.or op_sub) (ops_subW ops_sub) (ce_var 0) ce_int) ca_nil)))))) ca_nil))))))) (cb_one (cs_ret ce_bl)) cb_nil)
      (cb_cons (cs_set 4 nd (ce_get2 (u1 hr) (ce_dict (cps_cons ce_int (ce_ix (ce_var 1) ce_int) (cps_cons (ce_neg ce_int) (ce_ix (ce_var 1) ce_int) cps_nil))) (ce_bin (op_sub_bi.or op_sub) (ops_subW ops_sub) (ce_ix (ce_var 3) ce_int) (ce_ix (ce_var 3) ce_int)) ce_int))
      (cb_one (cs_ret (ce_and (ce_cmp op_gt ops_gt (ce_var 4) ce_int (nomark _)) (ce_one (ce_cmp (opr_eqP hr.units) ops_eqP (ce_callB call_len cs_len z_len (by decide +kernel) (ca_cons (ce_ix (ce_var 3) ce_int) ca_nil)) (ce_var 4) (nomark _))))))))))
theorem sc__law_is_step : FnScope ["cuts", "value", "one"] ["cuts", "value"] (defScope s__law_is_step) := ⟨rfl, rfl, rfl, by decide +kernel, rfl, by decide +kernel, by decide +kernel⟩
theorem ok_law_is_step (T : Tx K mg) : ∃ f fd, Df K mg "_law_is_step" s__law_is_step ["cuts", "value"] f fd ∧ FnG P w K mg base 2 f fd ["cuts", "value"] F_law_is_step := by
  obtain ⟨f, fd, D⟩ := T.d__law_is_step
  obtain ⟨_, _, D__law_is_whole, G__law_is_whole⟩ := ok_law_is_whole (P := P) (w := w) (base := base) T
  have z_all := T.z_all
  have z_isinstance := T.z_isinstance
  have z_len := T.z_len
  have z_str := T.z_str
  have z_tuple := T.z_tuple
  have nd := sc__law_is_step.nd
  refine ⟨f, fd, D, FnG.of (sm := B_law_is_step) D.F sc__law_is_step fun cdv A outer s H hgd hr => ?_⟩
  exact (cb_cons (cs_if (CW.t (cw_or (ct_not (ct_val (ce_isi (ce_var 1) z_isinstance z_tuple (by decide +kernel)))) (cw_or (ct_cmp (opr_eqP hr.units) ops_eqP (ce_var 1) (ce_tup ca_nil) (nomark _)) (cw_or1 (ct_not (ct_val (ce_isi (ce_ix (ce_var 1) ce_int) z_isinstance z_str (by decide +kernel)))))))) (cb_one (cs_ret ce_bl)) cb_nil)
      (cb_cons (cs_if (ct_cmp (opr_in (u65 hr)) ops_in (ce_ix (ce_var 1) ce_int) (ce_tup (ca_cons ce_str (ca_cons ce_str ca_nil))) (by rfl)) (cb_one (cs_ret (ce_and (ce_cmp (opr_eqP hr.units) ops_eqP (ce_callB call_len cs_len z_len (by decide +kernel) (ca_cons (ce_var 1) ca_nil)) ce_int (nomark _)) (ce_one (ce_call G__law_is_whole hgd (hr.mono (by decide)) D__law_is_whole.m D__law_is_whole.F.kp D__law_is_whole.b (ca_cons (ce_ix (ce_var 1) ce_int) (ca_cons ce_int (ca_cons (ce_callB call_len cs_len z_len (by decide +kernel) (ca_cons (ce_var 0) ca_nil)) ca_nil)))))))) cb_nil)
      (cb_cons (cs_if (CW.t (cw_or (ct_cmp (opr_neP hr.units) ops_neP (ce_ix (ce_var 1) ce_int) ce_str (nomark _)) (cw_or (ct_cmp (opr_neP hr.units) ops_neP (ce_callB call_len cs_len z_len (by decide +kernel) (ca_cons (ce_var 1) ca_nil)) ce_int (nomark _)) (cw_or1 (ct_not (ct_val (ce_callB (cr_all rfl) cs_all z_all (by decide +kernel) (ca_cons (ce_lc [("one", 2)] rfl nd (cj_val (ce_slice (ce_var 1) (co_some ce_int) (co_some ce_int))) (blkOk_by (N := ["cuts", "value", "one"]) (sc := defScope s__law_is_step) (by decide +kernel)) (fun _ _ _ _ _ => (cg_nm 2 nd)) (fun _ _ _ _ _ => cts_nil) (fun _ _ _ _ _ => (ce_call G__law_is_whole hgd (hr.mono (by decide)) D__law_is_whole.m D__law_is_whole.F.kp D__law_is_whole.b (ca_cons (ce_var 2) (ca_cons ce_int (ca_cons (ce_callB call_len cs_len z_len (by decide +kernel) (ca_cons (ce_var 0) ca_nil)) ca_nil)))))) ca_nil)))))))) (cb_one (cs_ret ce_bl)) cb_nil)
      (cb_one (cs_ret (ce_and (ce_cmp (opr_in (u65 hr)) ops_in (ce_bin (op_sub_bi.or op_sub) (ops_subW ops_sub) (ce_ix (ce_var 1) ce_int) (ce_ix (ce_var 1) ce_int)) (ce_tup (ca_cons ce_int (ca_cons (ce_neg ce_int) ca_nil))) (by rfl)) (ce_one (ce_call G__law_is_whole hgd (hr.mono (by decide)) D__law_is_whole.m D__law_is_whole.F.kp D__law_is_whole.b (ca_cons (ce_ix (ce_var 1) ce_int) (ca_cons ce_int (ca_cons ce_int ca_nil)))))))))))
theorem sc__law_is_schedule : FnScope ["cuts", "value", "one"] ["cuts", "value"] (defScope s__law_is_schedule) := ⟨rfl, rfl, rfl, by decide +kernel, rfl, by decide +kernel, by decide +kernel⟩
theorem ok_law_is_schedule (T : Tx K mg) : ∃ f fd, Df K mg "_law_is_schedule" s__law_is_schedule ["cuts", "value"] f fd ∧ FnG P w K mg base 3 f fd ["cuts", "value"] F_law_is_schedule := by
  obtain ⟨f, fd, D⟩ := T.d__law_is_schedule
  obtain ⟨_, _, D__law_is_step, G__law_is_step⟩ := ok_law_is_step (P := P) (w := w) (base := base) T
  have z_all := T.z_all
  have z_isinstance := T.z_isinstance
  have z_len := T.z_len
  have z_list := T.z_list
  have z_tuple := T.z_tuple
  have nd := sc__law_is_schedule.nd
  refine ⟨f, fd, D, FnG.of (sm := B_law_is_schedule) D.F sc__law_is_schedule fun cdv A outer s H hgd hr => ?_⟩
  exact (cb_one (cs_ret (ce_and (ce_isi2 (ce_var 1) z_isinstance z_list z_tuple (by decide +kernel) (by decide +kernel)) (ce_and (ce_cmp op_le ops_le (ce_callB call_len cs_len z_len (by decide +kernel) (ca_cons (ce_var 1) ca_nil)) ce_int (nomark _)) (ce_one (ce_callB (cr_all rfl) cs_all z_all (by decide +kernel) (ca_cons (ce_lc [("one", 2)] rfl nd (cj_val (ce_var 1)) (blkOk_by (N := ["cuts", "value", "one"]) (sc := defScope s__law_is_schedule) (by decide +kernel)) (fun _ _ _ _ _ => (cg_nm 2 nd)) (fun _ _ _ _ _ => cts_nil) (fun _ _ _ _ _ => (ce_call G__law_is_step hgd (hr.mono (by decide)) D__law_is_step.m D__law_is_step.F.kp D__law_is_step.b (ca_cons (ce_var 0) (ca_cons (ce_var 2) ca_nil))))) ca_nil)))))))
theorem sc__law_words : FnScope ["states", "many", "found", "at", "late", "word", "state"] ["states", "many"] (defScope s__law_words) := ⟨rfl, rfl, rfl, by decide +kernel, rfl, by decide +kernel, by decide +kernel⟩
theorem ok_law_words (T : Tx K mg) : ∃ f fd, Df K mg "_law_words" s__law_words ["states", "many"] f fd ∧ FnG P w K mg base 1 f fd ["states", "many"] F_law_words := by
  obtain ⟨f, fd, D⟩ := T.d__law_words
  have z_range := T.z_range
  have nd := sc__law_words.nd
  refine ⟨f, fd, D, FnG.of (sm := B_law_words) D.F sc__law_words fun cdv A outer s H hgd hr => ?_⟩
  exact (cb_cons (cs_set 2 nd (ce_lst (ca_cons (ce_tup ca_nil) ca_nil)))
      (cb_cons (cs_for PassesOwn.never rfl (ci_rng1 z_range (ce_var 1)) (cg_nm 3 nd) (cb_cons (cs_set 4 nd (ce_lst ca_nil))
      (cb_cons (cs_for PassesOwn.never rfl (ci_val (ce_var 2)) (cg_nm 5 nd) (cb_one (cs_extend 4 (ce_lc [("state", 6)] rfl nd (cj_rng1 z_range (ce_var 0)) (blkOk_by (N := ["states", "many", "found", "at", "late", "word", "state"]) (sc := defScope s__law_words) (by decide +kernel)) (fun _ _ _ _ _ => (cg_nm 6 nd)) (fun _ _ _ _ _ => cts_nil) (fun _ _ _ _ _ => (ce_bin (op_add_bi.or opr_add) (ops_addW ops_add) (ce_var 5) (ce_tup (ca_cons (ce_var 6) ca_nil))))))))
      (cb_one (cs_set 2 nd (ce_var 4))))))
      (cb_one (cs_ret (ce_var 2)))))
theorem sc_power_by : FnScope ["base", "many", "found", "turn"] ["base", "many"] (defScope s_power_by) := ⟨rfl, rfl, rfl, by decide +kernel, rfl, by decide +kernel, by decide +kernel⟩
theorem ok_power_by (T : Tx K mg) : ∃ f fd, Df K mg "power_by" s_power_by ["base", "many"] f fd ∧ FnG P w K mg base 1 f fd ["base", "many"] F_power_by := by
  obtain ⟨f, fd, D⟩ := T.d_power_by
  have z_range := T.z_range
  have nd := sc_power_by.nd
  refine ⟨f, fd, D, FnG.of (sm := B_power_by) D.F sc_power_by fun cdv A outer s H hgd hr => ?_⟩
  exact (cb_cons (cs_set 2 nd ce_int)
      (cb_cons (cs_for PassesOwn.never rfl (ci_rng1 z_range (ce_var 1)) (cg_nm 3 nd) (cb_one (cs_set 2 nd (ce_bin opr_mul ops_mul4 (ce_var 2) (ce_var 0)))))
      (cb_one (cs_ret (ce_var 2)))))
theorem sc_width_in : FnScope ["rule", "found"] ["rule"] (defScope s_width_in) := ⟨rfl, rfl, rfl, by decide +kernel, rfl, by decide +kernel, by decide +kernel⟩
theorem ok_width_in (T : Tx K mg) : ∃ f fd, Df K mg "width_in" s_width_in ["rule"] f fd ∧ FnG P w K mg base 2 f fd ["rule"] F_width_in := by
  obtain ⟨f, fd, D⟩ := T.d_width_in
  obtain ⟨_, _, D_power_by, G_power_by⟩ := ok_power_by (P := P) (w := w) (base := base) T
  have z_len := T.z_len
  have nd := sc_width_in.nd
  refine ⟨f, fd, D, FnG.of (sm := B_width_in) D.F sc_width_in fun cdv A outer s H hgd hr => ?_⟩
  exact (cb_cons (cs_set 1 nd ce_int)
      (cb_cons (cs_while PassesOwn.never (ct_cmp op_lt ops_lt (ce_call G_power_by hgd (hr.mono (by decide)) D_power_by.m D_power_by.F.kp D_power_by.b (ca_cons (ce_ix (ce_var 0) ce_int) (ca_cons (ce_var 1) ca_nil))) (ce_callB call_len cs_len z_len (by decide +kernel) (ca_cons (ce_ix (ce_var 0) ce_int) ca_nil)) (nomark _)) (cb_one (cs_set 1 nd (ce_bin (op_add_bi.or opr_add) (ops_addW ops_add) (ce_var 1) ce_int))))
      (cb_one (cs_ret (ce_var 1)))))
theorem sc_is_near : FnScope ["rule"] ["rule"] (defScope s_is_near) := ⟨rfl, rfl, rfl, by decide +kernel, rfl, by decide +kernel, by decide +kernel⟩
theorem ok_is_near (T : Tx K mg) : ∃ f fd, Df K mg "is_near" s_is_near ["rule"] f fd ∧ FnG P w K mg base 3 f fd ["rule"] F_is_near := by
  obtain ⟨f, fd, D⟩ := T.d_is_near
  obtain ⟨_, _, D_width_in, G_width_in⟩ := ok_width_in (P := P) (w := w) (base := base) T
  obtain ⟨_, g_MOST_LOW⟩ := T.g_MOST_LOW
  have nd := sc_is_near.nd
  refine ⟨f, fd, D, FnG.of (sm := B_is_near) D.F sc_is_near fun cdv A outer s H hgd hr => ?_⟩
  exact (cb_one (cs_ret (ce_chain op_le ops_le op_le ops_le (ce_neg (ce_gint g_MOST_LOW)) (ce_ix (ce_var 0) ce_int) (ce_bin (op_add_bi.or opr_add) (ops_addW ops_add) (ce_bin (op_sub_bi.or op_sub) (ops_subW ops_sub) (ce_gint g_MOST_LOW) (ce_call G_width_in hgd (hr.mono (by decide)) D_width_in.m D_width_in.F.kp D_width_in.b (ca_cons (ce_var 0) ca_nil))) ce_int))))
theorem sc_is_tuple_of : FnScope ["value", "many"] ["value", "many"] (defScope s_is_tuple_of) := ⟨rfl, rfl, rfl, by decide +kernel, rfl, by decide +kernel, by decide +kernel⟩
theorem ok_is_tuple_of (T : Tx K mg) : ∃ f fd, Df K mg "is_tuple_of" s_is_tuple_of ["value", "many"] f fd ∧ FnG P w K mg base 1 f fd ["value", "many"] F_is_tuple_of := by
  obtain ⟨f, fd, D⟩ := T.d_is_tuple_of
  have z_isinstance := T.z_isinstance
  have z_len := T.z_len
  have z_tuple := T.z_tuple
  have nd := sc_is_tuple_of.nd
  refine ⟨f, fd, D, FnG.of (sm := B_is_tuple_of) D.F sc_is_tuple_of fun cdv A outer s H hgd hr => ?_⟩
  exact (cb_one (cs_ret (ce_and (ce_isi (ce_var 0) z_isinstance z_tuple (by decide +kernel)) (ce_one (ce_cmp (opr_eqP hr.units) ops_eqP (ce_callB call_len cs_len z_len (by decide +kernel) (ca_cons (ce_var 0) ca_nil)) (ce_var 1) (nomark _))))))
theorem sc_is_integer : FnScope ["value"] ["value"] (defScope s_is_integer) := ⟨rfl, rfl, rfl, by decide +kernel, rfl, by decide +kernel, by decide +kernel⟩
theorem ok_is_integer (T : Tx K mg) : ∃ f fd, Df K mg "is_integer" s_is_integer ["value"] f fd ∧ FnG P w K mg base 1 f fd ["value"] F_is_integer := by
  obtain ⟨f, fd, D⟩ := T.d_is_integer
  have z_bool := T.z_bool
  have z_int := T.z_int
  have z_isinstance := T.z_isinstance
  have nd := sc_is_integer.nd
  refine ⟨f, fd, D, FnG.of (sm := B_is_integer) D.F sc_is_integer fun cdv A outer s H hgd hr => ?_⟩
  exact (cb_one (cs_ret (ce_and (ce_isi (ce_var 0) z_isinstance z_int (by decide +kernel)) (ce_one (ce_not (ce_isi (ce_var 0) z_isinstance z_bool (by decide +kernel)))))))
theorem sc_is_within : FnScope ["value", "low", "high"] ["value", "low", "high"] (defScope s_is_within) := ⟨rfl, rfl, rfl, by decide +kernel, rfl, by decide +kernel, by decide +kernel⟩
theorem ok_is_within (T : Tx K mg) : ∃ f fd, Df K mg "is_within" s_is_within ["value", "low", "high"] f fd ∧ FnG P w K mg base 2 f fd ["value", "low", "high"] F_is_within := by
  obtain ⟨f, fd, D⟩ := T.d_is_within
  obtain ⟨_, _, D_is_integer, G_is_integer⟩ := ok_is_integer (P := P) (w := w) (base := base) T
  have nd := sc_is_within.nd
  refine ⟨f, fd, D, FnG.of (sm := B_is_within) D.F sc_is_within fun cdv A outer s H hgd hr => ?_⟩
  exact (cb_one (cs_ret (ce_and (ce_call G_is_integer hgd (hr.mono (by decide)) D_is_integer.m D_is_integer.F.kp D_is_integer.b (ca_cons (ce_var 0) ca_nil)) (ce_one (ce_chain op_le ops_le op_le ops_le (ce_var 1) (ce_var 0) (ce_var 2))))))
theorem sc_is_states_any : FnScope ["value"] ["value"] (defScope s_is_states_any) := ⟨rfl, rfl, rfl, by decide +kernel, rfl, by decide +kernel, by decide +kernel⟩
theorem ok_is_states_any (T : Tx K mg) : ∃ f fd, Df K mg "is_states_any" s_is_states_any ["value"] f fd ∧ FnG P w K mg base 3 f fd ["value"] F_is_states_any := by
  obtain ⟨f, fd, D⟩ := T.d_is_states_any
  obtain ⟨_, _, D_is_within, G_is_within⟩ := ok_is_within (P := P) (w := w) (base := base) T
  obtain ⟨_, g_LEAST_STATES⟩ := T.g_LEAST_STATES
  obtain ⟨_, g_MOST_STATES⟩ := T.g_MOST_STATES
  have nd := sc_is_states_any.nd
  refine ⟨f, fd, D, FnG.of (sm := B_is_states_any) D.F sc_is_states_any fun cdv A outer s H hgd hr => ?_⟩
  exact (cb_one (cs_ret (ce_call G_is_within hgd (hr.mono (by decide)) D_is_within.m D_is_within.F.kp D_is_within.b (ca_cons (ce_var 0) (ca_cons (ce_gint g_LEAST_STATES) (ca_cons (ce_gint g_MOST_STATES) ca_nil))))))
theorem sc_is_word_of : FnScope ["states", "value", "one"] ["states", "value"] (defScope s_is_word_of) := ⟨rfl, rfl, rfl, by decide +kernel, rfl, by decide +kernel, by decide +kernel⟩
theorem ok_is_word_of (T : Tx K mg) : ∃ f fd, Df K mg "is_word_of" s_is_word_of ["states", "value"] f fd ∧ FnG P w K mg base 3 f fd ["states", "value"] F_is_word_of := by
  obtain ⟨f, fd, D⟩ := T.d_is_word_of
  obtain ⟨_, _, D_is_within, G_is_within⟩ := ok_is_within (P := P) (w := w) (base := base) T
  have z_all := T.z_all
  have z_isinstance := T.z_isinstance
  have z_tuple := T.z_tuple
  have nd := sc_is_word_of.nd
  refine ⟨f, fd, D, FnG.of (sm := B_is_word_of) D.F sc_is_word_of fun cdv A outer s H hgd hr => ?_⟩
  exact (cb_one (cs_ret (ce_and (ce_isi (ce_var 1) z_isinstance z_tuple (by decide +kernel)) (ce_one (ce_callB (cr_all rfl) cs_all z_all (by decide +kernel) (ca_cons (ce_lc [("one", 2)] rfl nd (cj_val (ce_var 1)) (blkOk_by (N := ["states", "value", "one"]) (sc := defScope s_is_word_of) (by decide +kernel)) (fun _ _ _ _ _ => (cg_nm 2 nd)) (fun _ _ _ _ _ => cts_nil) (fun _ _ _ _ _ => (ce_call G_is_within hgd (hr.mono (by decide)) D_is_within.m D_is_within.F.kp D_is_within.b (ca_cons (ce_var 2) (ca_cons ce_int (ca_cons (ce_bin (op_sub_bi.or op_sub) (ops_subW ops_sub) (ce_var 0) ce_int) ca_nil)))))) ca_nil))))))
theorem sc_is_rule_any : FnScope ["value"] ["value"] (defScope s_is_rule_any) := ⟨rfl, rfl, rfl, by decide +kernel, rfl, by decide +kernel, by decide +kernel⟩
theorem ok_is_rule_any (T : Tx K mg) : ∃ f fd, Df K mg "is_rule_any" s_is_rule_any ["value"] f fd ∧ FnG P w K mg base 4 f fd ["value"] F_is_rule_any := by
  obtain ⟨f, fd, D⟩ := T.d_is_rule_any
  obtain ⟨_, _, D_is_tuple_of, G_is_tuple_of⟩ := ok_is_tuple_of (P := P) (w := w) (base := base) T
  obtain ⟨_, _, D_is_states_any, G_is_states_any⟩ := ok_is_states_any (P := P) (w := w) (base := base) T
  obtain ⟨_, _, D_is_integer, G_is_integer⟩ := ok_is_integer (P := P) (w := w) (base := base) T
  obtain ⟨_, _, D_power_by, G_power_by⟩ := ok_power_by (P := P) (w := w) (base := base) T
  obtain ⟨_, _, D_width_in, G_width_in⟩ := ok_width_in (P := P) (w := w) (base := base) T
  obtain ⟨_, _, D_is_word_of, G_is_word_of⟩ := ok_is_word_of (P := P) (w := w) (base := base) T
  obtain ⟨_, _, D_is_near, G_is_near⟩ := ok_is_near (P := P) (w := w) (base := base) T
  have z_isinstance := T.z_isinstance
  have z_len := T.z_len
  have z_str := T.z_str
  have z_tuple := T.z_tuple
  obtain ⟨_, g_MOST_TABLE⟩ := T.g_MOST_TABLE
  obtain ⟨_, g_RULE⟩ := T.g_RULE
  have nd := sc_is_rule_any.nd
  refine ⟨f, fd, D, FnG.of (sm := B_is_rule_any) D.F sc_is_rule_any fun cdv A outer s H hgd hr => ?_⟩
  exact (cb_cons (cs_if (CW.t (cw_or (ct_not (ct_val (ce_call G_is_tuple_of hgd (hr.mono (by decide)) D_is_tuple_of.m D_is_tuple_of.F.kp D_is_tuple_of.b (ca_cons (ce_var 0) (ca_cons ce_int ca_nil))))) (cw_or (ct_not (ct_val (ce_isi (ce_ix (ce_var 0) ce_int) z_isinstance z_str (by decide +kernel)))) (cw_or (ct_cmp (opr_neP hr.units) ops_neP (ce_ix (ce_var 0) ce_int) (ce_gstr g_RULE) (nomark _)) (cw_or1 (ct_not (ct_val (ce_call G_is_states_any hgd (hr.mono (by decide)) D_is_states_any.m D_is_states_any.F.kp D_is_states_any.b (ca_cons (ce_ix (ce_var 0) ce_int) ca_nil))))))))) (cb_one (cs_ret ce_bl)) cb_nil)
      (cb_cons (cs_if (CW.t (cw_or (ct_not (ct_val (ce_call G_is_integer hgd (hr.mono (by decide)) D_is_integer.m D_is_integer.F.kp D_is_integer.b (ca_cons (ce_ix (ce_var 0) ce_int) ca_nil)))) (cw_or (ct_not (ct_val (ce_isi (ce_ix (ce_var 0) ce_int) z_isinstance z_tuple (by decide +kernel)))) (cw_or1 (ct_not (ct_chain op_le ops_le op_le ops_le ce_int (ce_callB call_len cs_len z_len (by decide +kernel) (ca_cons (ce_ix (ce_var 0) ce_int) ca_nil)) (ce_gint g_MOST_TABLE))))))) (cb_one (cs_ret ce_bl)) cb_nil)
      (cb_cons (cs_if (CW.t (cw_or (ct_cmp (opr_neP hr.units) ops_neP (ce_call G_power_by hgd (hr.mono (by decide)) D_power_by.m D_power_by.F.kp D_power_by.b (ca_cons (ce_ix (ce_var 0) ce_int) (ca_cons (ce_call G_width_in hgd (hr.mono (by decide)) D_width_in.m D_width_in.F.kp D_width_in.b (ca_cons (ce_var 0) ca_nil)) ca_nil))) (ce_callB call_len cs_len z_len (by decide +kernel) (ca_cons (ce_ix (ce_var 0) ce_int) ca_nil)) (nomark _)) (cw_or1 (ct_not (ct_val (ce_call G_is_word_of hgd (hr.mono (by decide)) D_is_word_of.m D_is_word_of.F.kp D_is_word_of.b (ca_cons (ce_ix (ce_var 0) ce_int) (ca_cons (ce_ix (ce_var 0) ce_int) ca_nil)))))))) (cb_one (cs_ret ce_bl)) cb_nil)
      (cb_one (cs_ret (ce_call G_is_near hgd (hr.mono (by decide)) D_is_near.m D_is_near.F.kp D_is_near.b (ca_cons (ce_var 0) ca_nil)))))))
theorem sc_want_rule : FnScope ["value"] ["value"] (defScope s_want_rule) := ⟨rfl, rfl, rfl, by decide +kernel, rfl, by decide +kernel, by decide +kernel⟩
theorem ok_want_rule (T : Tx K mg) : ∃ f fd, Df K mg "want_rule" s_want_rule ["value"] f fd ∧ FnG P w K mg base 5 f fd ["value"] F_want_rule := by
  obtain ⟨f, fd, D⟩ := T.d_want_rule
  obtain ⟨_, _, D_is_rule_any, G_is_rule_any⟩ := ok_is_rule_any (P := P) (w := w) (base := base) T
  have nd := sc_want_rule.nd
  refine ⟨f, fd, D, FnG.of (sm := B_want_rule) D.F sc_want_rule fun cdv A outer s H hgd hr => ?_⟩
  exact (cb_cons (cs_if (ct_not (ct_val (ce_call G_is_rule_any hgd (hr.mono (by decide)) D_is_rule_any.m D_is_rule_any.F.kp D_is_rule_any.b (ca_cons (ce_var 0) ca_nil)))) (cb_one cs_never) cb_nil)
      (cb_one (cs_ret (ce_var 0))))
theorem sc_is_listed : FnScope ["value"] ["value"] (defScope s_is_listed) := ⟨rfl, rfl, rfl, by decide +kernel, rfl, by decide +kernel, by decide +kernel⟩
theorem ok_is_listed (T : Tx K mg) : ∃ f fd, Df K mg "is_listed" s_is_listed ["value"] f fd ∧ FnG P w K mg base 1 f fd ["value"] F_is_listed := by
  obtain ⟨f, fd, D⟩ := T.d_is_listed
  have z_isinstance := T.z_isinstance
  have z_list := T.z_list
  have z_tuple := T.z_tuple
  have nd := sc_is_listed.nd
  refine ⟨f, fd, D, FnG.of (sm := B_is_listed) D.F sc_is_listed fun cdv A outer s H hgd hr => ?_⟩
  exact (cb_one (cs_ret (ce_isi2 (ce_var 0) z_isinstance z_list z_tuple (by decide +kernel) (by decide +kernel))))
theorem sc_rims_in : FnScope ["rule"] ["rule"] (defScope s_rims_in) := ⟨rfl, rfl, rfl, by decide +kernel, rfl, by decide +kernel, by decide +kernel⟩
theorem ok_rims_in (T : Tx K mg) : ∃ f fd, Df K mg "rims_in" s_rims_in ["rule"] f fd ∧ FnG P w K mg base 3 f fd ["rule"] F_rims_in := by
  obtain ⟨f, fd, D⟩ := T.d_rims_in
  obtain ⟨_, _, D_width_in, G_width_in⟩ := ok_width_in (P := P) (w := w) (base := base) T
  have z_max := T.z_max
  have nd := sc_rims_in.nd
  refine ⟨f, fd, D, FnG.of (sm := B_rims_in) D.F sc_rims_in fun cdv A outer s H hgd hr => ?_⟩
  exact (cb_one (cs_ret (ce_tup (ca_cons (ce_callB (call_max2 rfl) cs_max2 z_max (by decide +kernel) (ca_cons ce_int (ca_cons (ce_neg (ce_ix (ce_var 0) ce_int)) ca_nil))) (ca_cons (ce_callB (call_max2 rfl) cs_max2 z_max (by decide +kernel) (ca_cons ce_int (ca_cons (ce_bin (op_sub_bi.or op_sub) (ops_subW ops_sub) (ce_bin (op_add_bi.or opr_add) (ops_addW ops_add) (ce_ix (ce_var 0) ce_int) (ce_call G_width_in hgd (hr.mono (by decide)) D_width_in.m D_width_in.F.kp D_width_in.b (ca_cons (ce_var 0) ca_nil))) ce_int) ca_nil))) ca_nil)))))
theorem sc_are_cuts : FnScope ["rule", "value", "least", "near", "far", "one"] ["rule", "value"] (defScope s_are_cuts) := ⟨rfl, rfl, rfl, by decide +kernel, rfl, by decide +kernel, by decide +kernel⟩
theorem ok_are_cuts (T : Tx K mg) : ∃ f fd, Df K mg "are_cuts" s_are_cuts ["rule", "value"] f fd ∧ FnG P w K mg base 4 f fd ["rule", "value"] F_are_cuts := by
  obtain ⟨f, fd, D⟩ := T.d_are_cuts
  obtain ⟨_, _, D_is_listed, G_is_listed⟩ := ok_is_listed (P := P) (w := w) (base := base) T
  obtain ⟨_, _, D_is_within, G_is_within⟩ := ok_is_within (P := P) (w := w) (base := base) T
  obtain ⟨_, _, D_rims_in, G_rims_in⟩ := ok_rims_in (P := P) (w := w) (base := base) T
  have z_all := T.z_all
  have z_len := T.z_len
  have z_max := T.z_max
  have z_zip := T.z_zip
  obtain ⟨_, g_MOST_CUT⟩ := T.g_MOST_CUT
  obtain ⟨_, g_MOST_CUTS⟩ := T.g_MOST_CUTS
  have nd := sc_are_cuts.nd
  refine ⟨f, fd, D, FnG.of (sm := B_are_cuts) D.F sc_are_cuts fun cdv A outer s H hgd hr => ?_⟩
  exact (cb_cons (cs_if (CW.t (cw_or (ct_not (ct_val (ce_call G_is_listed hgd (hr.mono (by decide)) D_is_listed.m D_is_listed.F.kp D_is_listed.b (ca_cons (ce_var 1) ca_nil)))) (cw_or1 (ct_not (ct_chain op_le ops_le op_le ops_le ce_int (ce_callB call_len cs_len z_len (by decide +kernel) (ca_cons (ce_var 1) ca_nil)) (ce_gint g_MOST_CUTS)))))) (cb_one (cs_ret ce_bl)) cb_nil)
      (cb_cons (cs_if (ct_not (ct_val (ce_callB (cr_all rfl) cs_all z_all (by decide +kernel) (ca_cons (ce_lc [("one", 5)] rfl nd (cj_val (ce_var 1)) (blkOk_by (N := ["rule", "value", "least", "near", "far", "one"]) (sc := defScope s_are_cuts) (by decide +kernel)) (fun _ _ _ _ _ => (cg_nm 5 nd)) (fun _ _ _ _ _ => cts_nil) (fun _ _ _ _ _ => (ce_call G_is_within hgd (hr.mono (by decide)) D_is_within.m D_is_within.F.kp D_is_within.b (ca_cons (ce_var 5) (ca_cons (ce_neg (ce_gint g_MOST_CUT)) (ca_cons (ce_gint g_MOST_CUT) ca_nil)))))) ca_nil)))) (cb_one (cs_ret ce_bl)) cb_nil)
      (cb_cons (cs_set 2 nd (ce_callB (call_max2 rfl) cs_max2 z_max (by decide +kernel) (ca_cons ce_int (ca_cons (ce_callB (call_max1 rfl hr.units) cs_max1 z_max (by decide +kernel) (ca_cons (ce_call G_rims_in hgd (hr.mono (by decide)) D_rims_in.m D_rims_in.F.kp D_rims_in.b (ca_cons (ce_var 0) ca_nil)) ca_nil)) ca_nil))))
      (cb_one (cs_ret (ce_callB (cr_all rfl) cs_all z_all (by decide +kernel) (ca_cons (ce_lc [("near", 3), ("far", 4)] rfl nd (cj_zip z_zip (ce_var 1) (ce_slice (ce_var 1) (co_some ce_int) co_none)) (blkOk_by (N := ["rule", "value", "least", "near", "far", "one"]) (sc := defScope s_are_cuts) (by decide +kernel)) (fun _ _ _ _ _ => (cg_tp rfl (cgs_cons (cg_nm 3 nd) (cgs_cons (cg_nm 4 nd) cgs_nil)))) (fun _ _ _ _ _ => cts_nil) (fun _ _ _ _ _ => (ce_cmp op_ge ops_ge (ce_bin (op_sub_bi.or op_sub) (ops_subW ops_sub) (ce_var 4) (ce_var 3)) (ce_var 2) (nomark _)))) ca_nil)))))))
theorem sc_is_cuts : FnScope ["rule", "value"] ["rule", "value"] (defScope s_is_cuts) := ⟨rfl, rfl, rfl, by decide +kernel, rfl, by decide +kernel, by decide +kernel⟩
theorem ok_is_cuts (T : Tx K mg) : ∃ f fd, Df K mg "is_cuts" s_is_cuts ["rule", "value"] f fd ∧ FnG P w K mg base 6 f fd ["rule", "value"] F_is_cuts := by
  obtain ⟨f, fd, D⟩ := T.d_is_cuts
  obtain ⟨_, _, D_want_rule, G_want_rule⟩ := ok_want_rule (P := P) (w := w) (base := base) T
  obtain ⟨_, _, D_are_cuts, G_are_cuts⟩ := ok_are_cuts (P := P) (w := w) (base := base) T
  have nd := sc_is_cuts.nd
  refine ⟨f, fd, D, FnG.of (sm := B_is_cuts) D.F sc_is_cuts fun cdv A outer s H hgd hr => ?_⟩
  exact (cb_cons (cs_expr (ce_call G_want_rule hgd (hr.mono (by decide)) D_want_rule.m D_want_rule.F.kp D_want_rule.b (ca_cons (ce_var 0) ca_nil)))
      (cb_one (cs_ret (ce_call G_are_cuts hgd (hr.mono (by decide)) D_are_cuts.m D_are_cuts.F.kp D_are_cuts.b (ca_cons (ce_var 0) (ca_cons (ce_var 1) ca_nil))))))
theorem sc_want_cuts : FnScope ["rule", "cuts"] ["rule", "cuts"] (defScope s_want_cuts) := ⟨rfl, rfl, rfl, by decide +kernel, rfl, by decide +kernel, by decide +kernel⟩
theorem ok_want_cuts (T : Tx K mg) : ∃ f fd, Df K mg "want_cuts" s_want_cuts ["rule", "cuts"] f fd ∧ FnG P w K mg base 5 f fd ["rule", "cuts"] F_want_cuts := by
  obtain ⟨f, fd, D⟩ := T.d_want_cuts
  obtain ⟨_, _, D_are_cuts, G_are_cuts⟩ := ok_are_cuts (P := P) (w := w) (base := base) T
  have nd := sc_want_cuts.nd
  refine ⟨f, fd, D, FnG.of (sm := B_want_cuts) D.F sc_want_cuts fun cdv A outer s H hgd hr => ?_⟩
  exact (cb_one (cs_if (ct_not (ct_val (ce_call G_are_cuts hgd (hr.mono (by decide)) D_are_cuts.m D_are_cuts.F.kp D_are_cuts.b (ca_cons (ce_var 0) (ca_cons (ce_var 1) ca_nil))))) (cb_one cs_never) cb_nil))
theorem sc_rim_letters : FnScope ["rule", "cuts", "left", "right", "found", "worker"] ["rule", "cuts"] (defScope s_rim_letters) := ⟨rfl, rfl, rfl, by decide +kernel, rfl, by decide +kernel, by decide +kernel⟩
theorem ok_rim_letters (T : Tx K mg) : ∃ f fd, Df K mg "rim_letters" s_rim_letters ["rule", "cuts"] f fd ∧ FnG P w K mg base 4 f fd ["rule", "cuts"] F_rim_letters := by
  obtain ⟨f, fd, D⟩ := T.d_rim_letters
  obtain ⟨_, _, D_rims_in, G_rims_in⟩ := ok_rims_in (P := P) (w := w) (base := base) T
  have z_len := T.z_len
  have z_range := T.z_range
  have z_sorted := T.z_sorted
  have nd := sc_rim_letters.nd
  refine ⟨f, fd, D, FnG.of (sm := B_rim_letters) D.F sc_rim_letters fun cdv A outer s H hgd hr => ?_⟩
  exact (cb_cons (cs_unp (ce_call G_rims_in hgd (hr.mono (by decide)) D_rims_in.m D_rims_in.F.kp D_rims_in.b (ca_cons (ce_var 0) ca_nil)) (cg_tp rfl (cgs_cons (cg_nm 2 nd) (cgs_cons (cg_nm 3 nd) cgs_nil))))
      (cb_cons (cs_set 4 nd (ce_lst ca_nil))
      (cb_cons (cs_for PassesOwn.never rfl (ci_rng1 z_range (ce_callB call_len cs_len z_len (by decide +kernel) (ca_cons (ce_var 1) ca_nil))) (cg_nm 5 nd) (cb_cons (cs_if (ct_cmp op_gt ops_gt (ce_var 2) ce_int (nomark _)) (cb_one (cs_append 4 (ce_tup (ca_cons (ce_var 5) (ca_cons (ce_bin (op_add_bi.or opr_add) (ops_addW ops_add) (ce_var 5) ce_int) (ca_cons (ce_var 2) ca_nil)))))) cb_nil)
      (cb_one (cs_if (ct_cmp op_gt ops_gt (ce_var 3) ce_int (nomark _)) (cb_one (cs_append 4 (ce_tup (ca_cons (ce_bin (op_add_bi.or opr_add) (ops_addW ops_add) (ce_var 5) ce_int) (ca_cons (ce_var 5) (ca_cons (ce_var 3) ca_nil)))))) cb_nil))))
      (cb_one (cs_ret (ce_callB call_sorted1 cs_sorted1 z_sorted (by decide +kernel) (ca_cons (ce_var 4) ca_nil)))))))
theorem sc_is_letter_of : FnScope ["rule", "cuts", "value", "one"] ["rule", "cuts", "value"] (defScope s_is_letter_of) := ⟨rfl, rfl, rfl, by decide +kernel, rfl, by decide +kernel, by decide +kernel⟩
theorem ok_is_letter_of (T : Tx K mg) : ∃ f fd, Df K mg "is_letter_of" s_is_letter_of ["rule", "cuts", "value"] f fd ∧ FnG P w K mg base 5 f fd ["rule", "cuts", "value"] F_is_letter_of := by
  obtain ⟨f, fd, D⟩ := T.d_is_letter_of
  obtain ⟨_, _, D_is_tuple_of, G_is_tuple_of⟩ := ok_is_tuple_of (P := P) (w := w) (base := base) T
  obtain ⟨_, _, D_is_word_of, G_is_word_of⟩ := ok_is_word_of (P := P) (w := w) (base := base) T
  obtain ⟨_, _, D_is_within, G_is_within⟩ := ok_is_within (P := P) (w := w) (base := base) T
  obtain ⟨_, _, D_rim_letters, G_rim_letters⟩ := ok_rim_letters (P := P) (w := w) (base := base) T
  have z_all := T.z_all
  have z_isinstance := T.z_isinstance
  have z_len := T.z_len
  have z_str := T.z_str
  obtain ⟨_, g_LETTER⟩ := T.g_LETTER
  obtain ⟨_, g_MOST_TICK⟩ := T.g_MOST_TICK
  have nd := sc_is_letter_of.nd
  refine ⟨f, fd, D, FnG.of (sm := B_is_letter_of) D.F sc_is_letter_of fun cdv A outer s H hgd hr => ?_⟩
  exact (cb_cons (cs_if (CW.t (cw_or (ct_not (ct_val (ce_call G_is_tuple_of hgd (hr.mono (by decide)) D_is_tuple_of.m D_is_tuple_of.F.kp D_is_tuple_of.b (ca_cons (ce_var 2) (ca_cons ce_int ca_nil))))) (cw_or (ct_not (ct_val (ce_isi (ce_ix (ce_var 2) ce_int) z_isinstance z_str (by decide +kernel)))) (cw_or1 (ct_cmp (opr_neP hr.units) ops_neP (ce_ix (ce_var 2) ce_int) (ce_gstr g_LETTER) (nomark _)))))) (cb_one (cs_ret ce_bl)) cb_nil)
      (cb_cons (cs_if (ct_not (ct_val (ce_call G_is_word_of hgd (hr.mono (by decide)) D_is_word_of.m D_is_word_of.F.kp D_is_word_of.b (ca_cons (ce_ix (ce_var 0) ce_int) (ca_cons (ce_ix (ce_var 2) ce_int) ca_nil))))) (cb_one (cs_ret ce_bl)) cb_nil)
      (cb_cons (cs_if (CW.t (cw_or (ct_not (ct_val (ce_callB (cr_all rfl) cs_all z_all (by decide +kernel) (ca_cons (ce_lc [("one", 3)] rfl nd (cj_val (ce_slice (ce_var 2) (co_some ce_int) (co_some ce_int))) (blkOk_by (N := ["rule", "cuts", "value", "one"]) (sc := defScope s_is_letter_of) (by decide +kernel)) (fun _ _ _ _ _ => (cg_nm 3 nd)) (fun _ _ _ _ _ => cts_nil) (fun _ _ _ _ _ => (ce_call G_is_within hgd (hr.mono (by decide)) D_is_within.m D_is_within.F.kp D_is_within.b (ca_cons (ce_var 3) (ca_cons ce_int (ca_cons (ce_callB call_len cs_len z_len (by decide +kernel) (ca_cons (ce_var 1) ca_nil)) ca_nil)))))) ca_nil)))) (cw_or1 (ct_not (ct_val (ce_call G_is_within hgd (hr.mono (by decide)) D_is_within.m D_is_within.F.kp D_is_within.b (ca_cons (ce_ix (ce_var 2) ce_int) (ca_cons ce_int (ca_cons (ce_gint g_MOST_TICK) ca_nil))))))))) (cb_one (cs_ret ce_bl)) cb_nil)
      (cb_one (cs_ret (ce_cmp (opr_in (u65 hr)) ops_in (ce_tup (ca_cons (ce_ix (ce_var 2) ce_int) (ca_cons (ce_ix (ce_var 2) ce_int) (ca_cons (ce_callB call_len cs_len z_len (by decide +kernel) (ca_cons (ce_ix (ce_var 2) ce_int) ca_nil)) ca_nil)))) (ce_call G_rim_letters hgd (hr.mono (by decide)) D_rim_letters.m D_rim_letters.F.kp D_rim_letters.b (ca_cons (ce_var 0) (ca_cons (ce_var 1) ca_nil))) (by rfl)))))))
theorem sc_is_letter : FnScope ["rule", "cuts", "value"] ["rule", "cuts", "value"] (defScope s_is_letter) := ⟨rfl, rfl, rfl, by decide +kernel, rfl, by decide +kernel, by decide +kernel⟩
theorem ok_is_letter (T : Tx K mg) : ∃ f fd, Df K mg "is_letter" s_is_letter ["rule", "cuts", "value"] f fd ∧ FnG P w K mg base 6 f fd ["rule", "cuts", "value"] F_is_letter := by
  obtain ⟨f, fd, D⟩ := T.d_is_letter
  obtain ⟨_, _, D_want_rule, G_want_rule⟩ := ok_want_rule (P := P) (w := w) (base := base) T
  obtain ⟨_, _, D_want_cuts, G_want_cuts⟩ := ok_want_cuts (P := P) (w := w) (base := base) T
  obtain ⟨_, _, D_is_letter_of, G_is_letter_of⟩ := ok_is_letter_of (P := P) (w := w) (base := base) T
  have nd := sc_is_letter.nd
  refine ⟨f, fd, D, FnG.of (sm := B_is_letter) D.F sc_is_letter fun cdv A outer s H hgd hr => ?_⟩
  exact (cb_cons (cs_expr (ce_call G_want_rule hgd (hr.mono (by decide)) D_want_rule.m D_want_rule.F.kp D_want_rule.b (ca_cons (ce_var 0) ca_nil)))
      (cb_cons (cs_expr (ce_call G_want_cuts hgd (hr.mono (by decide)) D_want_cuts.m D_want_cuts.F.kp D_want_cuts.b (ca_cons (ce_var 0) (ca_cons (ce_var 1) ca_nil))))
      (cb_one (cs_ret (ce_call G_is_letter_of hgd (hr.mono (by decide)) D_is_letter_of.m D_is_letter_of.F.kp D_is_letter_of.b (ca_cons (ce_var 0) (ca_cons (ce_var 1) (ca_cons (ce_var 2) ca_nil))))))))
theorem sc_is_word_in : FnScope ["value", "words"] ["value", "words"] (defScope s_is_word_in) := ⟨rfl, rfl, rfl, by decide +kernel, rfl, by decide +kernel, by decide +kernel⟩
theorem ok_is_word_in (T : Tx K mg) : ∃ f fd, Df K mg "is_word_in" s_is_word_in ["value", "words"] f fd ∧ FnG P w K mg base 1 f fd ["value", "words"] F_is_word_in := by
  obtain ⟨f, fd, D⟩ := T.d_is_word_in
  have z_isinstance := T.z_isinstance
  have z_str := T.z_str
  have nd := sc_is_word_in.nd
  refine ⟨f, fd, D, FnG.of (sm := B_is_word_in) D.F sc_is_word_in fun cdv A outer s H hgd hr => ?_⟩
  exact (cb_one (cs_ret (ce_and (ce_isi (ce_var 0) z_isinstance z_str (by decide +kernel)) (ce_one (ce_cmp (opr_in (u65 hr)) ops_in (ce_var 0) (ce_var 1) (by rfl))))))
theorem sc_is_work : FnScope ["cuts", "value", "one"] ["cuts", "value"] (defScope s_is_work) := ⟨rfl, rfl, rfl, by decide +kernel, rfl, by decide +kernel, by decide +kernel⟩
theorem ok_is_work (T : Tx K mg) : ∃ f fd, Df K mg "is_work" s_is_work ["cuts", "value"] f fd ∧ FnG P w K mg base 3 f fd ["cuts", "value"] F_is_work := by
  obtain ⟨f, fd, D⟩ := T.d_is_work
  obtain ⟨_, _, D_is_word_in, G_is_word_in⟩ := ok_is_word_in (P := P) (w := w) (base := base) T
  obtain ⟨_, _, D_is_within, G_is_within⟩ := ok_is_within (P := P) (w := w) (base := base) T
  have z_abs := T.z_abs
  have z_all := T.z_all
  have z_isinstance := T.z_isinstance
  have z_len := T.z_len
  have z_tuple := T.z_tuple
  obtain ⟨_, g_BRING⟩ := T.g_BRING
  obtain ⟨_, g_FALL⟩ := T.g_FALL
  obtain ⟨_, g_GO⟩ := T.g_GO
  obtain ⟨_, g_MOST_TICK⟩ := T.g_MOST_TICK
  have nd := sc_is_work.nd
  refine ⟨f, fd, D, FnG.of (sm := B_is_work) D.F sc_is_work fun cdv A outer s H hgd hr => ?_⟩
  exact (cb_cons (cs_if (CW.t (cw_or (ct_not (ct_val (ce_isi (ce_var 1) z_isinstance z_tuple (by decide +kernel)))) (cw_or (ct_cmp (opr_eqP hr.units) ops_eqP (ce_var 1) (ce_tup ca_nil) (nomark _)) (cw_or1 (ct_not (ct_val (ce_call G_is_word_in hgd (hr.mono (by decide)) D_is_word_in.m D_is_word_in.F.kp D_is_word_in.b (ca_cons (ce_ix (ce_var 1) ce_int) (ca_cons (ce_tup (ca_cons (ce_gstr g_GO) (ca_cons (ce_gstr g_FALL) (ca_cons (ce_gstr g_BRING) ca_nil)))) ca_nil))))))))) (cb_one (cs_ret ce_bl)) cb_nil)
      (cb_cons (cs_if (ct_cmp (opr_neP hr.units) ops_neP (ce_ix (ce_var 1) ce_int) (ce_gstr g_BRING) (nomark _)) (cb_one (cs_ret (ce_and (ce_cmp (opr_eqP hr.units) ops_eqP (ce_callB call_len cs_len z_len (by decide +kernel) (ca_cons (ce_var 1) ca_nil)) ce_int (nomark _)) (ce_one (ce_call G_is_within hgd (hr.mono (by decide)) D_is_within.m D_is_within.F.kp D_is_within.b (ca_cons (ce_ix (ce_var 1) ce_int) (ca_cons ce_int (ca_cons (ce_callB call_len cs_len z_len (by decide +kernel) (ca_cons (ce_var 0) ca_nil)) ca_nil)))))))) cb_nil)
      (cb_cons (cs_if (CW.t (cw_or (ct_cmp (opr_neP hr.units) ops_neP (ce_callB call_len cs_len z_len (by decide +kernel) (ca_cons (ce_var 1) ca_nil)) ce_int (nomark _)) (cw_or1 (ct_not (ct_val (ce_callB (cr_all rfl) cs_all z_all (by decide +kernel) (ca_cons (ce_lc [("one", 2)] rfl nd (cj_val (ce_slice (ce_var 1) (co_some ce_int) (co_some ce_int))) (blkOk_by (N := ["cuts", "value", "one"]) (sc := defScope s_is_work) (by decide +kernel)) (fun _ _ _ _ _ => (cg_nm 2 nd)) (fun _ _ _ _ _ => cts_nil) (fun _ _ _ _ _ => (ce_call G_is_within hgd (hr.mono (by decide)) D_is_within.m D_is_within.F.kp D_is_within.b (ca_cons (ce_var 2) (ca_cons ce_int (ca_cons (ce_callB call_len cs_len z_len (by decide +kernel) (ca_cons (ce_var 0) ca_nil)) ca_nil)))))) ca_nil))))))) (cb_one (cs_ret ce_bl)) cb_nil)
      (cb_one (cs_ret (ce_and (ce_cmp (opr_eqP hr.units) ops_eqP (ce_callB call_abs cs_abs z_abs (by decide +kernel) (ca_cons (ce_bin (op_sub_bi.or op_sub) (ops_subW ops_sub) (ce_ix (ce_var 1) ce_int) (ce_ix (ce_var 1) ce_int)) ca_nil)) ce_int (nomark _)) (ce_one (ce_call G_is_within hgd (hr.mono (by decide)) D_is_within.m D_is_within.F.kp D_is_within.b (ca_cons (ce_ix (ce_var 1) ce_int) (ca_cons ce_int (ca_cons (ce_gint g_MOST_TICK) ca_nil)))))))))))
theorem sc_are_works : FnScope ["cuts", "value", "one"] ["cuts", "value"] (defScope s_are_works) := ⟨rfl, rfl, rfl, by decide +kernel, rfl, by decide +kernel, by decide +kernel⟩
theorem ok_are_works (T : Tx K mg) : ∃ f fd, Df K mg "are_works" s_are_works ["cuts", "value"] f fd ∧ FnG P w K mg base 4 f fd ["cuts", "value"] F_are_works := by
  obtain ⟨f, fd, D⟩ := T.d_are_works
  obtain ⟨_, _, D_is_listed, G_is_listed⟩ := ok_is_listed (P := P) (w := w) (base := base) T
  obtain ⟨_, _, D_is_work, G_is_work⟩ := ok_is_work (P := P) (w := w) (base := base) T
  have z_all := T.z_all
  have z_len := T.z_len
  obtain ⟨_, g_MOST_STEPS⟩ := T.g_MOST_STEPS
  have nd := sc_are_works.nd
  refine ⟨f, fd, D, FnG.of (sm := B_are_works) D.F sc_are_works fun cdv A outer s H hgd hr => ?_⟩
  exact (cb_one (cs_ret (ce_and (ce_call G_is_listed hgd (hr.mono (by decide)) D_is_listed.m D_is_listed.F.kp D_is_listed.b (ca_cons (ce_var 1) ca_nil)) (ce_and (ce_cmp op_le ops_le (ce_callB call_len cs_len z_len (by decide +kernel) (ca_cons (ce_var 1) ca_nil)) (ce_gint g_MOST_STEPS) (nomark _)) (ce_one (ce_callB (cr_all rfl) cs_all z_all (by decide +kernel) (ca_cons (ce_lc [("one", 2)] rfl nd (cj_val (ce_var 1)) (blkOk_by (N := ["cuts", "value", "one"]) (sc := defScope s_are_works) (by decide +kernel)) (fun _ _ _ _ _ => (cg_nm 2 nd)) (fun _ _ _ _ _ => cts_nil) (fun _ _ _ _ _ => (ce_call G_is_work hgd (hr.mono (by decide)) D_is_work.m D_is_work.F.kp D_is_work.b (ca_cons (ce_var 0) (ca_cons (ce_var 2) ca_nil))))) ca_nil)))))))
theorem sc_is_schedule : FnScope ["rule", "cuts", "value"] ["rule", "cuts", "value"] (defScope s_is_schedule) := ⟨rfl, rfl, rfl, by decide +kernel, rfl, by decide +kernel, by decide +kernel⟩
theorem ok_is_schedule (T : Tx K mg) : ∃ f fd, Df K mg "is_schedule" s_is_schedule ["rule", "cuts", "value"] f fd ∧ FnG P w K mg base 6 f fd ["rule", "cuts", "value"] F_is_schedule := by
  obtain ⟨f, fd, D⟩ := T.d_is_schedule
  obtain ⟨_, _, D_want_rule, G_want_rule⟩ := ok_want_rule (P := P) (w := w) (base := base) T
  obtain ⟨_, _, D_want_cuts, G_want_cuts⟩ := ok_want_cuts (P := P) (w := w) (base := base) T
  obtain ⟨_, _, D_are_works, G_are_works⟩ := ok_are_works (P := P) (w := w) (base := base) T
  have nd := sc_is_schedule.nd
  refine ⟨f, fd, D, FnG.of (sm := B_is_schedule) D.F sc_is_schedule fun cdv A outer s H hgd hr => ?_⟩
  exact (cb_cons (cs_expr (ce_call G_want_rule hgd (hr.mono (by decide)) D_want_rule.m D_want_rule.F.kp D_want_rule.b (ca_cons (ce_var 0) ca_nil)))
      (cb_cons (cs_expr (ce_call G_want_cuts hgd (hr.mono (by decide)) D_want_cuts.m D_want_cuts.F.kp D_want_cuts.b (ca_cons (ce_var 0) (ca_cons (ce_var 1) ca_nil))))
      (cb_one (cs_ret (ce_call G_are_works hgd (hr.mono (by decide)) D_are_works.m D_are_works.F.kp D_are_works.b (ca_cons (ce_var 1) (ca_cons (ce_var 2) ca_nil)))))))
theorem sc__law_right : FnScope ["pot", "states", "low", "width", "rule", "rims", "least", "at", "cuts", "turn", "shown", "edges", "value", "due", "kept", "worker", "letters", "schedule", "word"] ["pot"] (defScope s__law_right) := ⟨rfl, rfl, rfl, by decide +kernel, rfl, by decide +kernel, by decide +kernel⟩
theorem ok_law_right (T : Tx K mg) : ∃ f fd, Df K mg "_law_right" s__law_right ["pot"] f fd ∧ FnG P w K mg base 15 f fd ["pot"] F_law_right := by
  obtain ⟨f, fd, D⟩ := T.d__law_right
  obtain ⟨_, _, D__law_draw, G__law_draw⟩ := ok_law_draw (P := P) (w := w) (base := base) T
  obtain ⟨_, _, D__law_words, G__law_words⟩ := ok_law_words (P := P) (w := w) (base := base) T
  obtain ⟨_, _, D__law_bent, G__law_bent⟩ := ok_law_bent (P := P) (w := w) (base := base) T
  have G__law_bent := G__law_bent 12
  obtain ⟨_, _, D__law_is_cuts, G__law_is_cuts⟩ := ok_law_is_cuts (P := P) (w := w) (base := base) T
  obtain ⟨_, _, D_is_cuts, G_is_cuts⟩ := ok_is_cuts (P := P) (w := w) (base := base) T
  obtain ⟨_, _, D__law_is_letter, G__law_is_letter⟩ := ok_law_is_letter (P := P) (w := w) (base := base) T
  obtain ⟨_, _, D_is_letter, G_is_letter⟩ := ok_is_letter (P := P) (w := w) (base := base) T
  obtain ⟨_, _, D__law_is_schedule, G__law_is_schedule⟩ := ok_law_is_schedule (P := P) (w := w) (base := base) T
  obtain ⟨_, _, D_is_schedule, G_is_schedule⟩ := ok_is_schedule (P := P) (w := w) (base := base) T
  have z_len := T.z_len
  have z_list := T.z_list
  have z_max := T.z_max
  have z_range := T.z_range
  have z_repr := T.z_repr
  have z_tuple := T.z_tuple
  have nd := sc__law_right.nd
  refine ⟨f, fd, D, FnG.of (sm := B_law_right) D.F sc__law_right fun cdv A outer s H hgd hr => ?_⟩
  exact (cb_cons (cs_parT [1, 2, 3] rfl (pgs_cons (pg_name (i := 1) nd rfl (by first | exact Or.inl rfl | exact Or.inr rfl) (by first | exact .inl rfl | exact .inr rfl)) (pgs_cons (pg_name (i := 2) nd rfl (by first | exact Or.inl rfl | exact Or.inr rfl) (by first | exact .inl rfl | exact .inr rfl)) (pgs_cons (pg_name (i := 3) nd rfl (by first | exact Or.inl rfl | exact Or.inr rfl) (by first | exact .inl rfl | exact .inr rfl)) pgs_nil))) (cp_cons (ce_bin (op_add_bi.or opr_add) (ops_addW ops_add) ce_int (ce_call G__law_draw hgd (hr.mono (by decide)) D__law_draw.m D__law_draw.F.kp D__law_draw.b (ca_cons (ce_var 0) (ca_cons ce_int ca_nil)))) (cp_cons (ce_bin (op_sub_bi.or op_sub) (ops_subW ops_sub) (ce_call G__law_draw hgd (hr.mono (by decide)) D__law_draw.m D__law_draw.F.kp D__law_draw.b (ca_cons (ce_var 0) (ca_cons ce_int ca_nil))) ce_int) (cp_cons (ce_bin (op_add_bi.or opr_add) (ops_addW ops_add) ce_int (ce_call G__law_draw hgd (hr.mono (by decide)) D__law_draw.m D__law_draw.F.kp D__law_draw.b (ca_cons (ce_var 0) (ca_cons ce_int ca_nil)))) cp_nil))))
      (cb_cons (cs_frz [1] (cs_set 4 nd (ce_tup (ca_cons ce_str (ca_cons (ce_var 1) (ca_cons (ce_var 2) (ca_cons (ce_callTy call_tuple_of cs_tuple z_tuple (by decide +kernel) (ca_cons (ce_lc [("word", 18)] rfl nd (cj_val (ce_call G__law_words hgd (hr.mono (by decide)) D__law_words.m D__law_words.F.kp D__law_words.b (ca_cons (ce_var 1) (ca_cons (ce_var 3) ca_nil)))) (blkOk_by (N := ["pot", "states", "low", "width", "rule", "rims", "least", "at", "cuts", "turn", "shown", "edges", "value", "due", "kept", "worker", "letters", "schedule", "word"]) (sc := defScope s__law_right) (by decide +kernel)) (fun _ _ _ _ _ => (cg_nm 18 nd)) (fun _ _ _ _ _ => cts_nil) (fun _ _ _ _ _ => (ce_call G__law_draw hgd (hr.mono (by decide)) D__law_draw.m D__law_draw.F.kp D__law_draw.b (ca_cons (ce_var 0) (ca_cons (ce_var 1) ca_nil))))) ca_nil)) ca_nil)))))))
      (cb_cons (cs_set 5 nd (ce_tup (ca_cons (ce_callB (call_max2 rfl) cs_max2 z_max (by decide +kernel) (ca_cons ce_int (ca_cons (ce_bin (op_sub_bi.or op_sub) (ops_subW ops_sub) ce_int (ce_var 2)) ca_nil))) (ca_cons (ce_callB (call_max2 rfl) cs_max2 z_max (by decide +kernel) (ca_cons ce_int (ca_cons (ce_bin (op_sub_bi.or op_sub) (ops_subW ops_sub) (ce_bin (op_add_bi.or opr_add) (ops_addW ops_add) (ce_var 2) (ce_var 3)) ce_int) ca_nil))) ca_nil))))
      (cb_cons (cs_parT [6, 7, 8] rfl (pgs_cons (pg_name (i := 6) nd rfl (by first | exact Or.inl rfl | exact Or.inr rfl) (by first | exact .inl rfl | exact .inr rfl)) (pgs_cons (pg_name (i := 7) nd rfl (by first | exact Or.inl rfl | exact Or.inr rfl) (by first | exact .inl rfl | exact .inr rfl)) (pgs_cons (pg_name (i := 8) nd rfl (by first | exact Or.inl rfl | exact Or.inr rfl) (by first | exact .inl rfl | exact .inr rfl)) pgs_nil))) (cp_cons (ce_callB (call_max3Nu rfl) cs_max3 z_max (by decide +kernel) (ca_cons ce_int (ca_cons (ce_ix (ce_var 5) ce_int) (ca_cons (ce_ix (ce_var 5) ce_int) ca_nil)))) (cp_cons (ce_bin (op_sub_bi.or op_sub) (ops_subW ops_sub) (ce_call G__law_draw hgd (hr.mono (by decide)) D__law_draw.m D__law_draw.F.kp D__law_draw.b (ca_cons (ce_var 0) (ca_cons ce_int ca_nil))) ce_int) (cp_cons (ce_lst ca_nil) cp_nil))))
      (cb_cons (cs_for PassesOwn.never rfl (ci_rng1 z_range (ce_bin (op_add_bi.or opr_add) (ops_addW ops_add) ce_int (ce_call G__law_draw hgd (hr.mono (by decide)) D__law_draw.m D__law_draw.F.kp D__law_draw.b (ca_cons (ce_var 0) (ca_cons ce_int ca_nil))))) (cg_nm 9 nd) (cb_cons (cs_append 8 (ce_var 7))
      (cb_one (cs_set 7 nd (ce_bin (op_add_bi.or opr_add) (ops_addW ops_add) (ce_bin (op_add_bi.or opr_add) (ops_addW ops_add) (ce_var 7) (ce_var 6)) (ce_call G__law_draw hgd (hr.mono (by decide)) D__law_draw.m D__law_draw.F.kp D__law_draw.b (ca_cons (ce_var 0) (ca_cons ce_int ca_nil))))))))
      (cb_cons (cs_set 10 nd (ce_callB (call_repr2 hgd hr) cs_repr2 z_repr (by decide +kernel) (ca_cons (ce_lst (ca_cons (ce_var 4) (ca_cons (ce_var 8) ca_nil))) ca_nil)))
      (cb_cons (cs_set 11 nd (ce_lst (ca_cons (ce_lst (ca_cons ce_int ca_nil)) (ca_cons (ce_lst (ca_cons ce_int ca_nil)) (ca_cons (ce_lst (ca_cons (ce_neg ce_int) (ca_cons ce_int ca_nil))) (ca_cons (ce_tup (ca_cons (ce_neg ce_int) ca_nil)) (ca_cons (ce_listRg z_list rfl (cr_3 z_range (ce_bin opr_mul ops_mul4 (ce_neg ce_int) (ce_var 6)) (ce_bin opr_mul ops_mul4 ce_int (ce_var 6)) (ce_var 6))) (ca_cons (ce_listRg z_list rfl (cr_3 z_range (ce_bin opr_mul ops_mul4 (ce_neg ce_int) (ce_var 6)) (ce_bin opr_mul ops_mul4 ce_int (ce_var 6)) (ce_var 6))) (ca_cons (ce_lst (ca_cons ce_int (ca_cons (ce_var 6) ca_nil))) (ca_cons (ce_lst (ca_cons ce_int (ca_cons (ce_bin (op_sub_bi.or op_sub) (ops_subW ops_sub) (ce_var 6) ce_int) ca_nil))) (ca_cons (ce_lst ca_nil) (ca_cons ce_non (ca_cons ce_int (ca_cons ce_str ca_nil))))))))))))))
      (cb_cons (cs_frz [8] (cs_for PassesOwn.never rfl (ci_val (ce_bin (op_add_bi.or opr_add) (ops_addW ops_add) (ce_bin (op_add_bi.or opr_add) (ops_addW ops_add) (ce_lst (ca_cons (ce_var 8) (ca_cons (ce_callTy call_tuple_of cs_tuple z_tuple (by decide +kernel) (ca_cons (ce_var 8) ca_nil)) (ca_cons (ce_rev (ce_var 8)) (ca_cons (ce_dict (cps_cons ce_int ce_int cps_nil)) ca_nil))))) (ce_var 11)) (ce_lc [("turn", 9)] rfl nd (cj_rng1 z_range ce_int) (blkOk_by (N := ["pot", "states", "low", "width", "rule", "rims", "least", "at", "cuts", "turn", "shown", "edges", "value", "due", "kept", "worker", "letters", "schedule", "word"]) (sc := defScope s__law_right) (by decide +kernel)) (fun _ _ _ _ _ => (cg_nm 9 nd)) (fun _ _ _ _ _ => cts_nil) (fun _ _ _ _ _ => (ce_call G__law_bent hgd (hr.mono (by decide)) D__law_bent.m D__law_bent.F.kp D__law_bent.b (ca_cons (ce_var 0) (ca_cons (ce_var 8) ca_nil))))))) (cg_nm 12 nd) (cb_cons (cs_par2 13 14 rfl nd (cp_cons (ce_call G__law_is_cuts hgd (hr.mono (by decide)) D__law_is_cuts.m D__law_is_cuts.F.kp D__law_is_cuts.b (ca_cons (ce_var 5) (ca_cons (ce_var 12) ca_nil))) (cp_cons (ce_callB (call_repr2 hgd hr) cs_repr2 z_repr (by decide +kernel) (ca_cons (ce_var 12) ca_nil)) cp_nil)) (by rfl))
      (cb_one (cs_if (CW.t (cw_or (ct_cmp (opr_neP hr.units) ops_neP (ce_callB (call_repr2 hgd hr) cs_repr2 z_repr (by decide +kernel) (ca_cons (ce_lst (ca_cons (ce_call G_is_cuts hgd (hr.mono (by decide)) D_is_cuts.m D_is_cuts.F.kp D_is_cuts.b (ca_cons (ce_var 4) (ca_cons (ce_var 12) ca_nil))) (ca_cons (ce_callKw ["value", "rule"] [1, 0] G_is_cuts hgd (hr.mono (by decide)) D_is_cuts.m D_is_cuts.F.kp (kw_is_cuts_1_0 D_is_cuts.F) (ck_cons (ce_var 12) (ck_cons (ce_var 4) ck_nil)) (hperm := fun xs hx => match xs, hx with | [_, _], _ => rfl)) ca_nil))) ca_nil)) (ce_callB (call_repr2 hgd hr) cs_repr2 z_repr (by decide +kernel) (ca_cons (ce_lst (ca_cons (ce_var 13) (ca_cons (ce_var 13) ca_nil))) ca_nil)) (nomark _)) (cw_or1 (ct_cmp (opr_neP hr.units) ops_neP (ce_callB (call_repr2 hgd hr) cs_repr2 z_repr (by decide +kernel) (ca_cons (ce_var 12) ca_nil)) (ce_var 14) (nomark _))))) (cb_one (cs_ret ce_bl)) cb_nil)))))
      (cb_cons (cs_set 15 nd (ce_call G__law_draw hgd (hr.mono (by decide)) D__law_draw.m D__law_draw.F.kp D__law_draw.b (ca_cons (ce_var 0) (ca_cons (ce_callB call_len cs_len z_len (by decide +kernel) (ca_cons (ce_var 8) ca_nil)) ca_nil))))
      (cb_cons (cs_set 16 nd (ce_lst (ca_cons (ce_tup (ca_cons ce_str (ca_cons (ce_var 15) (ca_cons (ce_bin (op_add_bi.or opr_add) (ops_addW ops_add) (ce_var 15) ce_int) (ca_cons (ce_call G__law_draw hgd (hr.mono (by decide)) D__law_draw.m D__law_draw.F.kp D__law_draw.b (ca_cons (ce_var 0) (ca_cons ce_int ca_nil))) (ca_cons (ce_bin opr_mul ops_mul4 (ce_tup (ca_cons ce_int ca_nil)) (ce_ix (ce_var 5) ce_int)) ca_nil)))))) (ca_cons (ce_tup (ca_cons ce_str (ca_cons (ce_bin (op_add_bi.or opr_add) (ops_addW ops_add) (ce_var 15) ce_int) (ca_cons (ce_var 15) (ca_cons ce_int (ca_cons (ce_bin opr_mul ops_mul4 (ce_tup (ca_cons ce_int ca_nil)) (ce_ix (ce_var 5) ce_int)) ca_nil)))))) (ca_cons (ce_tup (ca_cons ce_str (ca_cons (ce_var 15) (ca_cons (ce_bin (op_add_bi.or opr_add) (ops_addW ops_add) (ce_var 15) ce_int) (ca_cons ce_int (ca_cons (ce_bin opr_mul ops_mul4 (ce_tup (ca_cons ce_int ca_nil)) (ce_ix (ce_var 5) ce_int)) ca_nil)))))) ca_nil)))))
      (cb_cons (cs_extend 16 (ce_lst (ca_cons (ce_tup (ca_cons ce_str (ca_cons ce_int (ca_cons ce_int (ca_cons ce_int (ca_cons (ce_tup ca_nil) ca_nil)))))) (ca_cons (ce_tup (ca_cons ce_str (ca_cons ce_int (ca_cons ce_int (ca_cons ce_int (ca_cons (ce_tup ca_nil) ca_nil)))))) (ca_cons (ce_tup (ca_cons ce_str (ca_cons ce_int (ca_cons ce_int (ca_cons ce_int (ca_cons (ce_tup (ca_cons ce_int ca_nil)) ca_nil)))))) (ca_cons (ce_tup (ca_cons ce_str (ca_cons ce_int (ca_cons ce_int (ca_cons ce_int (ca_cons (ce_bin opr_mul ops_mul4 (ce_tup (ca_cons ce_int ca_nil)) (ce_ix (ce_var 5) ce_int)) ca_nil)))))) (ca_cons ce_non (ca_cons (ce_tup ca_nil) (ca_cons ce_int (ca_cons ce_str ca_nil))))))))))
      (cb_cons (cs_for PassesOwn.never rfl (ci_val (ce_bin (op_add_bi.or opr_add) (ops_addW ops_add) (ce_var 16) (ce_lc [("at", 7)] rfl nd (cj_val (ce_tup (ca_cons ce_int (ca_cons ce_int (ca_cons ce_int (ca_cons ce_int (ca_cons ce_int (ca_cons ce_int (ca_cons ce_int (ca_cons ce_int ca_nil)))))))))) (blkOk_by (N := ["pot", "states", "low", "width", "rule", "rims", "least", "at", "cuts", "turn", "shown", "edges", "value", "due", "kept", "worker", "letters", "schedule", "word"]) (sc := defScope s__law_right) (by decide +kernel)) (fun _ _ _ _ _ => (cg_nm 7 nd)) (fun _ _ _ _ _ => cts_nil) (fun _ _ _ _ _ => (ce_call G__law_bent hgd (hr.mono (by decide)) D__law_bent.m D__law_bent.F.kp D__law_bent.b (ca_cons (ce_var 0) (ca_cons (ce_ix (ce_var 16) (ce_var 7)) ca_nil))))))) (cg_nm 12 nd) (cb_cons (cs_par2 13 14 rfl nd (cp_cons (ce_call G__law_is_letter hgd (hr.mono (by decide)) D__law_is_letter.m D__law_is_letter.F.kp D__law_is_letter.b (ca_cons (ce_var 1) (ca_cons (ce_var 5) (ca_cons (ce_var 8) (ca_cons (ce_var 12) ca_nil))))) (cp_cons (ce_callB (call_repr2 hgd hr) cs_repr2 z_repr (by decide +kernel) (ca_cons (ce_var 12) ca_nil)) cp_nil)) (by rfl))
      (cb_one (cs_if (CW.t (cw_or (ct_cmp (opr_neP hr.units) ops_neP (ce_callB (call_repr2 hgd hr) cs_repr2 z_repr (by decide +kernel) (ca_cons (ce_lst (ca_cons (ce_call G_is_letter hgd (hr.mono (by decide)) D_is_letter.m D_is_letter.F.kp D_is_letter.b (ca_cons (ce_var 4) (ca_cons (ce_var 8) (ca_cons (ce_var 12) ca_nil)))) (ca_cons (ce_callKw ["value", "cuts", "rule"] [2, 1, 0] G_is_letter hgd (hr.mono (by decide)) D_is_letter.m D_is_letter.F.kp (kw_is_letter_2_1_0 D_is_letter.F) (ck_cons (ce_var 12) (ck_cons (ce_var 8) (ck_cons (ce_var 4) ck_nil))) (hperm := fun xs hx => match xs, hx with | [_, _, _], _ => rfl)) ca_nil))) ca_nil)) (ce_callB (call_repr2 hgd hr) cs_repr2 z_repr (by decide +kernel) (ca_cons (ce_lst (ca_cons (ce_var 13) (ca_cons (ce_var 13) ca_nil))) ca_nil)) (nomark _)) (cw_or1 (ct_cmp (opr_neP hr.units) ops_neP (ce_callB (call_repr2 hgd hr) cs_repr2 z_repr (by decide +kernel) (ca_cons (ce_var 12) ca_nil)) (ce_var 14) (nomark _))))) (cb_one (cs_ret ce_bl)) cb_nil))))
      (cb_cons (cs_set 17 nd (ce_lst (ca_cons (ce_tup (ca_cons ce_str (ca_cons (ce_var 15) ca_nil))) (ca_cons (ce_tup (ca_cons ce_str (ca_cons (ce_var 15) (ca_cons (ce_bin (op_add_bi.or opr_add) (ops_addW ops_add) (ce_var 15) ce_int) (ca_cons ce_int ca_nil))))) (ca_cons (ce_tup (ca_cons ce_str (ca_cons (ce_callB call_len cs_len z_len (by decide +kernel) (ca_cons (ce_var 8) ca_nil)) ca_nil))) (ca_cons (ce_tup (ca_cons ce_str (ca_cons (ce_bin (op_add_bi.or opr_add) (ops_addW ops_add) (ce_var 15) ce_int) (ca_cons (ce_var 15) (ca_cons ce_int ca_nil))))) ca_nil))))))
      (cb_cons (cs_set 11 nd (ce_lst (ca_cons (ce_bin opr_mul ops_mul4 (ce_lst (ca_cons (ce_tup (ca_cons ce_str (ca_cons ce_int ca_nil))) ca_nil)) ce_int) (ca_cons (ce_bin opr_mul ops_mul4 (ce_lst (ca_cons (ce_tup (ca_cons ce_str (ca_cons ce_int ca_nil))) ca_nil)) ce_int) (ca_cons (ce_lst (ca_cons (ce_tup (ca_cons ce_str (ca_cons (ce_bin (op_add_bi.or opr_add) (ops_addW ops_add) (ce_callB call_len cs_len z_len (by decide +kernel) (ca_cons (ce_var 8) ca_nil)) ce_int) ca_nil))) ca_nil)) (ca_cons (ce_lst (ca_cons (ce_tup (ca_cons ce_str (ca_cons ce_int (ca_cons ce_int (ca_cons ce_int ca_nil))))) ca_nil)) (ca_cons (ce_lst (ca_cons (ce_tup (ca_cons ce_str (ca_cons ce_int (ca_cons ce_int (ca_cons ce_int ca_nil))))) ca_nil)) (ca_cons (ce_lst (ca_cons (ce_tup (ca_cons ce_str (ca_cons ce_int (ca_cons ce_int (ca_cons ce_int ca_nil))))) ca_nil)) (ca_cons (ce_lst (ca_cons (ce_lst (ca_cons ce_str (ca_cons ce_int ca_nil))) ca_nil)) (ca_cons (ce_lst (ca_cons (ce_tup (ca_cons ce_str (ca_cons ce_int (ca_cons ce_int ca_nil)))) ca_nil)) (ca_cons (ce_lst (ca_cons (ce_tup ca_nil) ca_nil)) ca_nil)))))))))))
      (cb_cons (cs_frz [17] (cs_for PassesOwn.never rfl (ci_val (ce_bin (op_add_bi.or opr_add) (ops_addW ops_add) (ce_bin (op_add_bi.or opr_add) (ops_addW ops_add) (ce_lst (ca_cons (ce_var 17) (ca_cons (ce_callTy call_tuple_of cs_tuple z_tuple (by decide +kernel) (ca_cons (ce_var 17) ca_nil)) (ca_cons (ce_lst ca_nil) (ca_cons (ce_tup ca_nil) (ca_cons ce_non (ca_cons ce_int (ca_cons ce_str (ca_cons ce_dnew ca_nil))))))))) (ce_var 11)) (ce_lc [("turn", 9)] rfl nd (cj_rng1 z_range ce_int) (blkOk_by (N := ["pot", "states", "low", "width", "rule", "rims", "least", "at", "cuts", "turn", "shown", "edges", "value", "due", "kept", "worker", "letters", "schedule", "word"]) (sc := defScope s__law_right) (by decide +kernel)) (fun _ _ _ _ _ => (cg_nm 9 nd)) (fun _ _ _ _ _ => cts_nil) (fun _ _ _ _ _ => (ce_call G__law_bent hgd (hr.mono (by decide)) D__law_bent.m D__law_bent.F.kp D__law_bent.b (ca_cons (ce_var 0) (ca_cons (ce_var 17) ca_nil))))))) (cg_nm 12 nd) (cb_cons (cs_par2 13 14 rfl nd (cp_cons (ce_call G__law_is_schedule hgd (hr.mono (by decide)) D__law_is_schedule.m D__law_is_schedule.F.kp D__law_is_schedule.b (ca_cons (ce_var 8) (ca_cons (ce_var 12) ca_nil))) (cp_cons (ce_callB (call_repr2 hgd hr) cs_repr2 z_repr (by decide +kernel) (ca_cons (ce_var 12) ca_nil)) cp_nil)) (by rfl))
      (cb_one (cs_if (CW.t (cw_or (ct_cmp (opr_neP hr.units) ops_neP (ce_callB (call_repr2 hgd hr) cs_repr2 z_repr (by decide +kernel) (ca_cons (ce_lst (ca_cons (ce_call G_is_schedule hgd (hr.mono (by decide)) D_is_schedule.m D_is_schedule.F.kp D_is_schedule.b (ca_cons (ce_var 4) (ca_cons (ce_var 8) (ca_cons (ce_var 12) ca_nil)))) (ca_cons (ce_callKw ["value", "cuts", "rule"] [2, 1, 0] G_is_schedule hgd (hr.mono (by decide)) D_is_schedule.m D_is_schedule.F.kp (kw_is_schedule_2_1_0 D_is_schedule.F) (ck_cons (ce_var 12) (ck_cons (ce_var 8) (ck_cons (ce_var 4) ck_nil))) (hperm := fun xs hx => match xs, hx with | [_, _, _], _ => rfl)) ca_nil))) ca_nil)) (ce_callB (call_repr2 hgd hr) cs_repr2 z_repr (by decide +kernel) (ca_cons (ce_lst (ca_cons (ce_var 13) (ca_cons (ce_var 13) ca_nil))) ca_nil)) (nomark _)) (cw_or1 (ct_cmp (opr_neP hr.units) ops_neP (ce_callB (call_repr2 hgd hr) cs_repr2 z_repr (by decide +kernel) (ca_cons (ce_var 12) ca_nil)) (ce_var 14) (nomark _))))) (cb_one (cs_ret ce_bl)) cb_nil)))))
      (cb_one (cs_ret (ce_cmp (opr_eqP hr.units) ops_eqP (ce_callB (call_repr2 hgd hr) cs_repr2 z_repr (by decide +kernel) (ca_cons (ce_lst (ca_cons (ce_var 4) (ca_cons (ce_var 8) ca_nil))) ca_nil)) (ce_var 10) (nomark _)))))))))))))))))))
end
theorem tx_mk {K : Fg} {h : Heap} {mg : Str → Option Value} (X : K.In h) (G : h.Ns mainGlobals mg)
    {f0 : Addr} {od0 an0 : Option Addr} {sl0 : Array (Option Value)} {oc0 kV0 dc0 pm0 cd0 ct0 : Value}
    {f1 : Addr} {od1 an1 : Option Addr} {sl1 : Array (Option Value)} {oc1 kV1 dc1 pm1 cd1 ct1 : Value}
    {f2 : Addr} {od2 an2 : Option Addr} {sl2 : Array (Option Value)} {oc2 kV2 dc2 pm2 cd2 ct2 : Value}
    {f3 : Addr} {od3 an3 : Option Addr} {sl3 : Array (Option Value)} {oc3 kV3 dc3 pm3 cd3 ct3 : Value}
    {f4 : Addr} {od4 an4 : Option Addr} {sl4 : Array (Option Value)} {oc4 kV4 dc4 pm4 cd4 ct4 : Value}
    {f5 : Addr} {od5 an5 : Option Addr} {sl5 : Array (Option Value)} {oc5 kV5 dc5 pm5 cd5 ct5 : Value}
    {f6 : Addr} {od6 an6 : Option Addr} {sl6 : Array (Option Value)} {oc6 kV6 dc6 pm6 cd6 ct6 : Value}
    {f7 : Addr} {od7 an7 : Option Addr} {sl7 : Array (Option Value)} {oc7 kV7 dc7 pm7 cd7 ct7 : Value}
    {f8 : Addr} {od8 an8 : Option Addr} {sl8 : Array (Option Value)} {oc8 kV8 dc8 pm8 cd8 ct8 : Value}
    {f9 : Addr} {od9 an9 : Option Addr} {sl9 : Array (Option Value)} {oc9 kV9 dc9 pm9 cd9 ct9 : Value}
    {f10 : Addr} {od10 an10 : Option Addr} {sl10 : Array (Option Value)} {oc10 kV10 dc10 pm10 cd10 ct10 : Value}
    {f11 : Addr} {od11 an11 : Option Addr} {sl11 : Array (Option Value)} {oc11 kV11 dc11 pm11 cd11 ct11 : Value}
    {f12 : Addr} {od12 an12 : Option Addr} {sl12 : Array (Option Value)} {oc12 kV12 dc12 pm12 cd12 ct12 : Value}
    {f13 : Addr} {od13 an13 : Option Addr} {sl13 : Array (Option Value)} {oc13 kV13 dc13 pm13 cd13 ct13 : Value}
    {f14 : Addr} {od14 an14 : Option Addr} {sl14 : Array (Option Value)} {oc14 kV14 dc14 pm14 cd14 ct14 : Value}
    {f15 : Addr} {od15 an15 : Option Addr} {sl15 : Array (Option Value)} {oc15 kV15 dc15 pm15 cd15 ct15 : Value}
    {f16 : Addr} {od16 an16 : Option Addr} {sl16 : Array (Option Value)} {oc16 kV16 dc16 pm16 cd16 ct16 : Value}
    {f17 : Addr} {od17 an17 : Option Addr} {sl17 : Array (Option Value)} {oc17 kV17 dc17 pm17 cd17 ct17 : Value}
    {f18 : Addr} {od18 an18 : Option Addr} {sl18 : Array (Option Value)} {oc18 kV18 dc18 pm18 cd18 ct18 : Value}
    {f19 : Addr} {od19 an19 : Option Addr} {sl19 : Array (Option Value)} {oc19 kV19 dc19 pm19 cd19 ct19 : Value}
    {f20 : Addr} {od20 an20 : Option Addr} {sl20 : Array (Option Value)} {oc20 kV20 dc20 pm20 cd20 ct20 : Value}
    {f21 : Addr} {od21 an21 : Option Addr} {sl21 : Array (Option Value)} {oc21 kV21 dc21 pm21 cd21 ct21 : Value}
    {f22 : Addr} {od22 an22 : Option Addr} {sl22 : Array (Option Value)} {oc22 kV22 dc22 pm22 cd22 ct22 : Value}
    {f23 : Addr} {od23 an23 : Option Addr} {sl23 : Array (Option Value)} {oc23 kV23 dc23 pm23 cd23 ct23 : Value}
    {f24 : Addr} {od24 an24 : Option Addr} {sl24 : Array (Option Value)} {oc24 kV24 dc24 pm24 cd24 ct24 : Value}
    {f25 : Addr} {od25 an25 : Option Addr} {sl25 : Array (Option Value)} {oc25 kV25 dc25 pm25 cd25 ct25 : Value}
    {f26 : Addr} {od26 an26 : Option Addr} {sl26 : Array (Option Value)} {oc26 kV26 dc26 pm26 cd26 ct26 : Value}
    {f27 : Addr} {od27 an27 : Option Addr} {sl27 : Array (Option Value)} {oc27 kV27 dc27 pm27 cd27 ct27 : Value}
    {f28 : Addr} {od28 an28 : Option Addr} {sl28 : Array (Option Value)} {oc28 kV28 dc28 pm28 cd28 ct28 : Value}
    {f29 : Addr} {od29 an29 : Option Addr} {sl29 : Array (Option Value)} {oc29 kV29 dc29 pm29 cd29 ct29 : Value}
    {f30 : Addr} {od30 an30 : Option Addr} {sl30 : Array (Option Value)} {oc30 kV30 dc30 pm30 cd30 ct30 : Value}
    {f31 : Addr} {od31 an31 : Option Addr} {sl31 : Array (Option Value)} {oc31 kV31 dc31 pm31 cd31 ct31 : Value}
    {f32 : Addr} {od32 an32 : Option Addr} {sl32 : Array (Option Value)} {oc32 kV32 dc32 pm32 cd32 ct32 : Value}
    {f33 : Addr} {od33 an33 : Option Addr} {sl33 : Array (Option Value)} {oc33 kV33 dc33 pm33 cd33 ct33 : Value}
    {t0 : Tok}
    {t1 : Tok}
    {t2 : Tok}
    {t3 : Tok}
    {t4 : Tok}
    {t5 : Tok}
    {t6 : Tok}
    {t7 : Tok}
    {t8 : Tok}
    {t9 : Tok}
    {t10 : Tok}
    {t11 : Tok}
    {t12 : Tok}
    (a0 : PySem.W.nsIn K mainGlobals "_law_draw" = some (some (.ref f0)))
    (l0 : K.lookup f0 = some ⟨oc0, od0, .func (PySem.W.fnOf "_law_draw" "_law_draw" (defArgs s__law_draw) (defBody s__law_draw) (defScope s__law_draw) .none kV0 dc0 pm0 an0 cd0 ct0), sl0⟩)
    (c0 : PySem.W.codeIn K cd0 "_law_draw" = true) (k0 : PySem.W.keepIn K (.ref f0) = true)
    (a1 : PySem.W.nsIn K mainGlobals "_law_pick" = some (some (.ref f1)))
    (l1 : K.lookup f1 = some ⟨oc1, od1, .func (PySem.W.fnOf "_law_pick" "_law_pick" (defArgs s__law_pick) (defBody s__law_pick) (defScope s__law_pick) .none kV1 dc1 pm1 an1 cd1 ct1), sl1⟩)
    (c1 : PySem.W.codeIn K cd1 "_law_pick" = true) (k1 : PySem.W.keepIn K (.ref f1) = true)
    (a2 : PySem.W.nsIn K mainGlobals "_law_bent" = some (some (.ref f2)))
    (l2 : K.lookup f2 = some ⟨oc2, od2, .func (PySem.W.fnOf "_law_bent" "_law_bent" (defArgs s__law_bent) (defBody s__law_bent) (defScope s__law_bent) .none kV2 dc2 pm2 an2 cd2 ct2), sl2⟩)
    (c2 : PySem.W.codeIn K cd2 "_law_bent" = true) (k2 : PySem.W.keepIn K (.ref f2) = true)
    (a3 : PySem.W.nsIn K mainGlobals "_law_is_whole" = some (some (.ref f3)))
    (l3 : K.lookup f3 = some ⟨oc3, od3, .func (PySem.W.fnOf "_law_is_whole" "_law_is_whole" (defArgs s__law_is_whole) (defBody s__law_is_whole) (defScope s__law_is_whole) .none kV3 dc3 pm3 an3 cd3 ct3), sl3⟩)
    (c3 : PySem.W.codeIn K cd3 "_law_is_whole" = true) (k3 : PySem.W.keepIn K (.ref f3) = true)
    (a4 : PySem.W.nsIn K mainGlobals "_law_is_cuts" = some (some (.ref f4)))
    (l4 : K.lookup f4 = some ⟨oc4, od4, .func (PySem.W.fnOf "_law_is_cuts" "_law_is_cuts" (defArgs s__law_is_cuts) (defBody s__law_is_cuts) (defScope s__law_is_cuts) .none kV4 dc4 pm4 an4 cd4 ct4), sl4⟩)
    (c4 : PySem.W.codeIn K cd4 "_law_is_cuts" = true) (k4 : PySem.W.keepIn K (.ref f4) = true)
    (a5 : PySem.W.nsIn K mainGlobals "_law_is_letter" = some (some (.ref f5)))
    (l5 : K.lookup f5 = some ⟨oc5, od5, .func (PySem.W.fnOf "_law_is_letter" "_law_is_letter" (defArgs s__law_is_letter) (defBody s__law_is_letter) (defScope s__law_is_letter) .none kV5 dc5 pm5 an5 cd5 ct5), sl5⟩)
    (c5 : PySem.W.codeIn K cd5 "_law_is_letter" = true) (k5 : PySem.W.keepIn K (.ref f5) = true)
    (a6 : PySem.W.nsIn K mainGlobals "_law_is_step" = some (some (.ref f6)))
    (l6 : K.lookup f6 = some ⟨oc6, od6, .func (PySem.W.fnOf "_law_is_step" "_law_is_step" (defArgs s__law_is_step) (defBody s__law_is_step) (defScope s__law_is_step) .none kV6 dc6 pm6 an6 cd6 ct6), sl6⟩)
    (c6 : PySem.W.codeIn K cd6 "_law_is_step" = true) (k6 : PySem.W.keepIn K (.ref f6) = true)
    (a7 : PySem.W.nsIn K mainGlobals "_law_is_schedule" = some (some (.ref f7)))
    (l7 : K.lookup f7 = some ⟨oc7, od7, .func (PySem.W.fnOf "_law_is_schedule" "_law_is_schedule" (defArgs s__law_is_schedule) (defBody s__law_is_schedule) (defScope s__law_is_schedule) .none kV7 dc7 pm7 an7 cd7 ct7), sl7⟩)
    (c7 : PySem.W.codeIn K cd7 "_law_is_schedule" = true) (k7 : PySem.W.keepIn K (.ref f7) = true)
    (a8 : PySem.W.nsIn K mainGlobals "_law_words" = some (some (.ref f8)))
    (l8 : K.lookup f8 = some ⟨oc8, od8, .func (PySem.W.fnOf "_law_words" "_law_words" (defArgs s__law_words) (defBody s__law_words) (defScope s__law_words) .none kV8 dc8 pm8 an8 cd8 ct8), sl8⟩)
    (c8 : PySem.W.codeIn K cd8 "_law_words" = true) (k8 : PySem.W.keepIn K (.ref f8) = true)
    (a9 : PySem.W.nsIn K mainGlobals "power_by" = some (some (.ref f9)))
    (l9 : K.lookup f9 = some ⟨oc9, od9, .func (PySem.W.fnOf "power_by" "power_by" (defArgs s_power_by) (defBody s_power_by) (defScope s_power_by) .none kV9 dc9 pm9 an9 cd9 ct9), sl9⟩)
    (c9 : PySem.W.codeIn K cd9 "power_by" = true) (k9 : PySem.W.keepIn K (.ref f9) = true)
    (a10 : PySem.W.nsIn K mainGlobals "width_in" = some (some (.ref f10)))
    (l10 : K.lookup f10 = some ⟨oc10, od10, .func (PySem.W.fnOf "width_in" "width_in" (defArgs s_width_in) (defBody s_width_in) (defScope s_width_in) .none kV10 dc10 pm10 an10 cd10 ct10), sl10⟩)
    (c10 : PySem.W.codeIn K cd10 "width_in" = true) (k10 : PySem.W.keepIn K (.ref f10) = true)
    (a11 : PySem.W.nsIn K mainGlobals "is_near" = some (some (.ref f11)))
    (l11 : K.lookup f11 = some ⟨oc11, od11, .func (PySem.W.fnOf "is_near" "is_near" (defArgs s_is_near) (defBody s_is_near) (defScope s_is_near) .none kV11 dc11 pm11 an11 cd11 ct11), sl11⟩)
    (c11 : PySem.W.codeIn K cd11 "is_near" = true) (k11 : PySem.W.keepIn K (.ref f11) = true)
    (a12 : PySem.W.nsIn K mainGlobals "is_tuple_of" = some (some (.ref f12)))
    (l12 : K.lookup f12 = some ⟨oc12, od12, .func (PySem.W.fnOf "is_tuple_of" "is_tuple_of" (defArgs s_is_tuple_of) (defBody s_is_tuple_of) (defScope s_is_tuple_of) .none kV12 dc12 pm12 an12 cd12 ct12), sl12⟩)
    (c12 : PySem.W.codeIn K cd12 "is_tuple_of" = true) (k12 : PySem.W.keepIn K (.ref f12) = true)
    (a13 : PySem.W.nsIn K mainGlobals "is_integer" = some (some (.ref f13)))
    (l13 : K.lookup f13 = some ⟨oc13, od13, .func (PySem.W.fnOf "is_integer" "is_integer" (defArgs s_is_integer) (defBody s_is_integer) (defScope s_is_integer) .none kV13 dc13 pm13 an13 cd13 ct13), sl13⟩)
    (c13 : PySem.W.codeIn K cd13 "is_integer" = true) (k13 : PySem.W.keepIn K (.ref f13) = true)
    (a14 : PySem.W.nsIn K mainGlobals "is_within" = some (some (.ref f14)))
    (l14 : K.lookup f14 = some ⟨oc14, od14, .func (PySem.W.fnOf "is_within" "is_within" (defArgs s_is_within) (defBody s_is_within) (defScope s_is_within) .none kV14 dc14 pm14 an14 cd14 ct14), sl14⟩)
    (c14 : PySem.W.codeIn K cd14 "is_within" = true) (k14 : PySem.W.keepIn K (.ref f14) = true)
    (a15 : PySem.W.nsIn K mainGlobals "is_states_any" = some (some (.ref f15)))
    (l15 : K.lookup f15 = some ⟨oc15, od15, .func (PySem.W.fnOf "is_states_any" "is_states_any" (defArgs s_is_states_any) (defBody s_is_states_any) (defScope s_is_states_any) .none kV15 dc15 pm15 an15 cd15 ct15), sl15⟩)
    (c15 : PySem.W.codeIn K cd15 "is_states_any" = true) (k15 : PySem.W.keepIn K (.ref f15) = true)
    (a16 : PySem.W.nsIn K mainGlobals "is_word_of" = some (some (.ref f16)))
    (l16 : K.lookup f16 = some ⟨oc16, od16, .func (PySem.W.fnOf "is_word_of" "is_word_of" (defArgs s_is_word_of) (defBody s_is_word_of) (defScope s_is_word_of) .none kV16 dc16 pm16 an16 cd16 ct16), sl16⟩)
    (c16 : PySem.W.codeIn K cd16 "is_word_of" = true) (k16 : PySem.W.keepIn K (.ref f16) = true)
    (a17 : PySem.W.nsIn K mainGlobals "is_rule_any" = some (some (.ref f17)))
    (l17 : K.lookup f17 = some ⟨oc17, od17, .func (PySem.W.fnOf "is_rule_any" "is_rule_any" (defArgs s_is_rule_any) (defBody s_is_rule_any) (defScope s_is_rule_any) .none kV17 dc17 pm17 an17 cd17 ct17), sl17⟩)
    (c17 : PySem.W.codeIn K cd17 "is_rule_any" = true) (k17 : PySem.W.keepIn K (.ref f17) = true)
    (a18 : PySem.W.nsIn K mainGlobals "want_rule" = some (some (.ref f18)))
    (l18 : K.lookup f18 = some ⟨oc18, od18, .func (PySem.W.fnOf "want_rule" "want_rule" (defArgs s_want_rule) (defBody s_want_rule) (defScope s_want_rule) .none kV18 dc18 pm18 an18 cd18 ct18), sl18⟩)
    (c18 : PySem.W.codeIn K cd18 "want_rule" = true) (k18 : PySem.W.keepIn K (.ref f18) = true)
    (a19 : PySem.W.nsIn K mainGlobals "is_listed" = some (some (.ref f19)))
    (l19 : K.lookup f19 = some ⟨oc19, od19, .func (PySem.W.fnOf "is_listed" "is_listed" (defArgs s_is_listed) (defBody s_is_listed) (defScope s_is_listed) .none kV19 dc19 pm19 an19 cd19 ct19), sl19⟩)
    (c19 : PySem.W.codeIn K cd19 "is_listed" = true) (k19 : PySem.W.keepIn K (.ref f19) = true)
    (a20 : PySem.W.nsIn K mainGlobals "rims_in" = some (some (.ref f20)))
    (l20 : K.lookup f20 = some ⟨oc20, od20, .func (PySem.W.fnOf "rims_in" "rims_in" (defArgs s_rims_in) (defBody s_rims_in) (defScope s_rims_in) .none kV20 dc20 pm20 an20 cd20 ct20), sl20⟩)
    (c20 : PySem.W.codeIn K cd20 "rims_in" = true) (k20 : PySem.W.keepIn K (.ref f20) = true)
    (a21 : PySem.W.nsIn K mainGlobals "are_cuts" = some (some (.ref f21)))
    (l21 : K.lookup f21 = some ⟨oc21, od21, .func (PySem.W.fnOf "are_cuts" "are_cuts" (defArgs s_are_cuts) (defBody s_are_cuts) (defScope s_are_cuts) .none kV21 dc21 pm21 an21 cd21 ct21), sl21⟩)
    (c21 : PySem.W.codeIn K cd21 "are_cuts" = true) (k21 : PySem.W.keepIn K (.ref f21) = true)
    (a22 : PySem.W.nsIn K mainGlobals "is_cuts" = some (some (.ref f22)))
    (l22 : K.lookup f22 = some ⟨oc22, od22, .func (PySem.W.fnOf "is_cuts" "is_cuts" (defArgs s_is_cuts) (defBody s_is_cuts) (defScope s_is_cuts) .none kV22 dc22 pm22 an22 cd22 ct22), sl22⟩)
    (c22 : PySem.W.codeIn K cd22 "is_cuts" = true) (k22 : PySem.W.keepIn K (.ref f22) = true)
    (a23 : PySem.W.nsIn K mainGlobals "want_cuts" = some (some (.ref f23)))
    (l23 : K.lookup f23 = some ⟨oc23, od23, .func (PySem.W.fnOf "want_cuts" "want_cuts" (defArgs s_want_cuts) (defBody s_want_cuts) (defScope s_want_cuts) .none kV23 dc23 pm23 an23 cd23 ct23), sl23⟩)
    (c23 : PySem.W.codeIn K cd23 "want_cuts" = true) (k23 : PySem.W.keepIn K (.ref f23) = true)
    (a24 : PySem.W.nsIn K mainGlobals "rim_letters" = some (some (.ref f24)))
    (l24 : K.lookup f24 = some ⟨oc24, od24, .func (PySem.W.fnOf "rim_letters" "rim_letters" (defArgs s_rim_letters) (defBody s_rim_letters) (defScope s_rim_letters) .none kV24 dc24 pm24 an24 cd24 ct24), sl24⟩)
    (c24 : PySem.W.codeIn K cd24 "rim_letters" = true) (k24 : PySem.W.keepIn K (.ref f24) = true)
    (a25 : PySem.W.nsIn K mainGlobals "is_letter_of" = some (some (.ref f25)))
    (l25 : K.lookup f25 = some ⟨oc25, od25, .func (PySem.W.fnOf "is_letter_of" "is_letter_of" (defArgs s_is_letter_of) (defBody s_is_letter_of) (defScope s_is_letter_of) .none kV25 dc25 pm25 an25 cd25 ct25), sl25⟩)
    (c25 : PySem.W.codeIn K cd25 "is_letter_of" = true) (k25 : PySem.W.keepIn K (.ref f25) = true)
    (a26 : PySem.W.nsIn K mainGlobals "is_letter" = some (some (.ref f26)))
    (l26 : K.lookup f26 = some ⟨oc26, od26, .func (PySem.W.fnOf "is_letter" "is_letter" (defArgs s_is_letter) (defBody s_is_letter) (defScope s_is_letter) .none kV26 dc26 pm26 an26 cd26 ct26), sl26⟩)
    (c26 : PySem.W.codeIn K cd26 "is_letter" = true) (k26 : PySem.W.keepIn K (.ref f26) = true)
    (a27 : PySem.W.nsIn K mainGlobals "is_word_in" = some (some (.ref f27)))
    (l27 : K.lookup f27 = some ⟨oc27, od27, .func (PySem.W.fnOf "is_word_in" "is_word_in" (defArgs s_is_word_in) (defBody s_is_word_in) (defScope s_is_word_in) .none kV27 dc27 pm27 an27 cd27 ct27), sl27⟩)
    (c27 : PySem.W.codeIn K cd27 "is_word_in" = true) (k27 : PySem.W.keepIn K (.ref f27) = true)
    (a28 : PySem.W.nsIn K mainGlobals "is_work" = some (some (.ref f28)))
    (l28 : K.lookup f28 = some ⟨oc28, od28, .func (PySem.W.fnOf "is_work" "is_work" (defArgs s_is_work) (defBody s_is_work) (defScope s_is_work) .none kV28 dc28 pm28 an28 cd28 ct28), sl28⟩)
    (c28 : PySem.W.codeIn K cd28 "is_work" = true) (k28 : PySem.W.keepIn K (.ref f28) = true)
    (a29 : PySem.W.nsIn K mainGlobals "are_works" = some (some (.ref f29)))
    (l29 : K.lookup f29 = some ⟨oc29, od29, .func (PySem.W.fnOf "are_works" "are_works" (defArgs s_are_works) (defBody s_are_works) (defScope s_are_works) .none kV29 dc29 pm29 an29 cd29 ct29), sl29⟩)
    (c29 : PySem.W.codeIn K cd29 "are_works" = true) (k29 : PySem.W.keepIn K (.ref f29) = true)
    (a30 : PySem.W.nsIn K mainGlobals "is_schedule" = some (some (.ref f30)))
    (l30 : K.lookup f30 = some ⟨oc30, od30, .func (PySem.W.fnOf "is_schedule" "is_schedule" (defArgs s_is_schedule) (defBody s_is_schedule) (defScope s_is_schedule) .none kV30 dc30 pm30 an30 cd30 ct30), sl30⟩)
    (c30 : PySem.W.codeIn K cd30 "is_schedule" = true) (k30 : PySem.W.keepIn K (.ref f30) = true)
    (a31 : PySem.W.nsIn K mainGlobals "_law_right" = some (some (.ref f31)))
    (l31 : K.lookup f31 = some ⟨oc31, od31, .func (PySem.W.fnOf "_law_right" "_law_right" (defArgs s__law_right) (defBody s__law_right) (defScope s__law_right) .none kV31 dc31 pm31 an31 cd31 ct31), sl31⟩)
    (c31 : PySem.W.codeIn K cd31 "_law_right" = true) (k31 : PySem.W.keepIn K (.ref f31) = true)
    (a32 : PySem.W.nsIn K mainGlobals "_law_pot" = some (some (.ref f32)))
    (l32 : K.lookup f32 = some ⟨oc32, od32, .func (PySem.W.fnOf "_law_pot" "_law_pot" (defArgs s__law_pot) (defBody s__law_pot) (defScope s__law_pot) .none kV32 dc32 pm32 an32 cd32 ct32), sl32⟩)
    (c32 : PySem.W.codeIn K cd32 "_law_pot" = true) (k32 : PySem.W.keepIn K (.ref f32) = true)
    (a33 : PySem.W.nsIn K mainGlobals "law" = some (some (.ref f33)))
    (l33 : K.lookup f33 = some ⟨oc33, od33, .func (PySem.W.fnOf "law" "law" (defArgs s_law) (defBody s_law) (defScope s_law) .none kV33 dc33 pm33 an33 cd33 ct33), sl33⟩)
    (c33 : PySem.W.codeIn K cd33 "law" = true) (k33 : PySem.W.keepIn K (.ref f33) = true)
    (z0 : PySem.W.nsIn K mainGlobals "abs" = some none)
    (z1 : PySem.W.nsIn K mainGlobals "all" = some none)
    (z2 : PySem.W.nsIn K mainGlobals "bool" = some none)
    (z3 : PySem.W.nsIn K mainGlobals "divmod" = some none)
    (z4 : PySem.W.nsIn K mainGlobals "int" = some none)
    (z5 : PySem.W.nsIn K mainGlobals "isinstance" = some none)
    (z6 : PySem.W.nsIn K mainGlobals "len" = some none)
    (z7 : PySem.W.nsIn K mainGlobals "list" = some none)
    (z8 : PySem.W.nsIn K mainGlobals "max" = some none)
    (z9 : PySem.W.nsIn K mainGlobals "min" = some none)
    (z10 : PySem.W.nsIn K mainGlobals "range" = some none)
    (z11 : PySem.W.nsIn K mainGlobals "repr" = some none)
    (z12 : PySem.W.nsIn K mainGlobals "sorted" = some none)
    (z13 : PySem.W.nsIn K mainGlobals "str" = some none)
    (z14 : PySem.W.nsIn K mainGlobals "tuple" = some none)
    (z15 : PySem.W.nsIn K mainGlobals "zip" = some none)
    (g0 : PySem.W.nsIn K mainGlobals "BRING" = some (some (.str (Str.ofString "bring") t0)))
    (g1 : PySem.W.nsIn K mainGlobals "FALL" = some (some (.str (Str.ofString "fall") t1)))
    (g2 : PySem.W.nsIn K mainGlobals "GO" = some (some (.str (Str.ofString "go") t2)))
    (g3 : PySem.W.nsIn K mainGlobals "LEAST_STATES" = some (some (.int 2 t3)))
    (g4 : PySem.W.nsIn K mainGlobals "LETTER" = some (some (.str (Str.ofString "letter") t4)))
    (g5 : PySem.W.nsIn K mainGlobals "MOST_CUT" = some (some (.int 400 t5)))
    (g6 : PySem.W.nsIn K mainGlobals "MOST_CUTS" = some (some (.int 8 t6)))
    (g7 : PySem.W.nsIn K mainGlobals "MOST_LOW" = some (some (.int 100 t7)))
    (g8 : PySem.W.nsIn K mainGlobals "MOST_STATES" = some (some (.int 8 t8)))
    (g9 : PySem.W.nsIn K mainGlobals "MOST_STEPS" = some (some (.int 2000 t9)))
    (g10 : PySem.W.nsIn K mainGlobals "MOST_TABLE" = some (some (.int 4096 t10)))
    (g11 : PySem.W.nsIn K mainGlobals "MOST_TICK" = some (some (.int 1000 t11)))
    (g12 : PySem.W.nsIn K mainGlobals "RULE" = some (some (.str (Str.ofString "rule") t12)))
    : Tx K mg where
  d__law_draw := ⟨f0, _, ⟨fun_mk (st := s__law_draw) l0 c0 k0, PySem.W.mg_of X G a0, (fun_mk (st := s__law_draw) l0 c0 k0).binds fun _ _ _ _ _ _ us hl => match us, hl with | [_, _], _ => rfl⟩⟩
  d__law_pick := ⟨f1, _, ⟨fun_mk (st := s__law_pick) l1 c1 k1, PySem.W.mg_of X G a1, (fun_mk (st := s__law_pick) l1 c1 k1).binds fun _ _ _ _ _ _ us hl => match us, hl with | [_, _], _ => rfl⟩⟩
  d__law_bent := ⟨f2, _, ⟨fun_mk (st := s__law_bent) l2 c2 k2, PySem.W.mg_of X G a2, (fun_mk (st := s__law_bent) l2 c2 k2).binds fun _ _ _ _ _ _ us hl => match us, hl with | [_, _], _ => rfl⟩⟩
  d__law_is_whole := ⟨f3, _, ⟨fun_mk (st := s__law_is_whole) l3 c3 k3, PySem.W.mg_of X G a3, (fun_mk (st := s__law_is_whole) l3 c3 k3).binds fun _ _ _ _ _ _ us hl => match us, hl with | [_, _, _], _ => rfl⟩⟩
  d__law_is_cuts := ⟨f4, _, ⟨fun_mk (st := s__law_is_cuts) l4 c4 k4, PySem.W.mg_of X G a4, (fun_mk (st := s__law_is_cuts) l4 c4 k4).binds fun _ _ _ _ _ _ us hl => match us, hl with | [_, _], _ => rfl⟩⟩
  d__law_is_letter := ⟨f5, _, ⟨fun_mk (st := s__law_is_letter) l5 c5 k5, PySem.W.mg_of X G a5, (fun_mk (st := s__law_is_letter) l5 c5 k5).binds fun _ _ _ _ _ _ us hl => match us, hl with | [_, _, _, _], _ => rfl⟩⟩
  d__law_is_step := ⟨f6, _, ⟨fun_mk (st := s__law_is_step) l6 c6 k6, PySem.W.mg_of X G a6, (fun_mk (st := s__law_is_step) l6 c6 k6).binds fun _ _ _ _ _ _ us hl => match us, hl with | [_, _], _ => rfl⟩⟩
  d__law_is_schedule := ⟨f7, _, ⟨fun_mk (st := s__law_is_schedule) l7 c7 k7, PySem.W.mg_of X G a7, (fun_mk (st := s__law_is_schedule) l7 c7 k7).binds fun _ _ _ _ _ _ us hl => match us, hl with | [_, _], _ => rfl⟩⟩
  d__law_words := ⟨f8, _, ⟨fun_mk (st := s__law_words) l8 c8 k8, PySem.W.mg_of X G a8, (fun_mk (st := s__law_words) l8 c8 k8).binds fun _ _ _ _ _ _ us hl => match us, hl with | [_, _], _ => rfl⟩⟩
  d_power_by := ⟨f9, _, ⟨fun_mk (st := s_power_by) l9 c9 k9, PySem.W.mg_of X G a9, (fun_mk (st := s_power_by) l9 c9 k9).binds fun _ _ _ _ _ _ us hl => match us, hl with | [_, _], _ => rfl⟩⟩
  d_width_in := ⟨f10, _, ⟨fun_mk (st := s_width_in) l10 c10 k10, PySem.W.mg_of X G a10, (fun_mk (st := s_width_in) l10 c10 k10).binds fun _ _ _ _ _ _ us hl => match us, hl with | [_], _ => rfl⟩⟩
  d_is_near := ⟨f11, _, ⟨fun_mk (st := s_is_near) l11 c11 k11, PySem.W.mg_of X G a11, (fun_mk (st := s_is_near) l11 c11 k11).binds fun _ _ _ _ _ _ us hl => match us, hl with | [_], _ => rfl⟩⟩
  d_is_tuple_of := ⟨f12, _, ⟨fun_mk (st := s_is_tuple_of) l12 c12 k12, PySem.W.mg_of X G a12, (fun_mk (st := s_is_tuple_of) l12 c12 k12).binds fun _ _ _ _ _ _ us hl => match us, hl with | [_, _], _ => rfl⟩⟩
  d_is_integer := ⟨f13, _, ⟨fun_mk (st := s_is_integer) l13 c13 k13, PySem.W.mg_of X G a13, (fun_mk (st := s_is_integer) l13 c13 k13).binds fun _ _ _ _ _ _ us hl => match us, hl with | [_], _ => rfl⟩⟩
  d_is_within := ⟨f14, _, ⟨fun_mk (st := s_is_within) l14 c14 k14, PySem.W.mg_of X G a14, (fun_mk (st := s_is_within) l14 c14 k14).binds fun _ _ _ _ _ _ us hl => match us, hl with | [_, _, _], _ => rfl⟩⟩
  d_is_states_any := ⟨f15, _, ⟨fun_mk (st := s_is_states_any) l15 c15 k15, PySem.W.mg_of X G a15, (fun_mk (st := s_is_states_any) l15 c15 k15).binds fun _ _ _ _ _ _ us hl => match us, hl with | [_], _ => rfl⟩⟩
  d_is_word_of := ⟨f16, _, ⟨fun_mk (st := s_is_word_of) l16 c16 k16, PySem.W.mg_of X G a16, (fun_mk (st := s_is_word_of) l16 c16 k16).binds fun _ _ _ _ _ _ us hl => match us, hl with | [_, _], _ => rfl⟩⟩
  d_is_rule_any := ⟨f17, _, ⟨fun_mk (st := s_is_rule_any) l17 c17 k17, PySem.W.mg_of X G a17, (fun_mk (st := s_is_rule_any) l17 c17 k17).binds fun _ _ _ _ _ _ us hl => match us, hl with | [_], _ => rfl⟩⟩
  d_want_rule := ⟨f18, _, ⟨fun_mk (st := s_want_rule) l18 c18 k18, PySem.W.mg_of X G a18, (fun_mk (st := s_want_rule) l18 c18 k18).binds fun _ _ _ _ _ _ us hl => match us, hl with | [_], _ => rfl⟩⟩
  d_is_listed := ⟨f19, _, ⟨fun_mk (st := s_is_listed) l19 c19 k19, PySem.W.mg_of X G a19, (fun_mk (st := s_is_listed) l19 c19 k19).binds fun _ _ _ _ _ _ us hl => match us, hl with | [_], _ => rfl⟩⟩
  d_rims_in := ⟨f20, _, ⟨fun_mk (st := s_rims_in) l20 c20 k20, PySem.W.mg_of X G a20, (fun_mk (st := s_rims_in) l20 c20 k20).binds fun _ _ _ _ _ _ us hl => match us, hl with | [_], _ => rfl⟩⟩
  d_are_cuts := ⟨f21, _, ⟨fun_mk (st := s_are_cuts) l21 c21 k21, PySem.W.mg_of X G a21, (fun_mk (st := s_are_cuts) l21 c21 k21).binds fun _ _ _ _ _ _ us hl => match us, hl with | [_, _], _ => rfl⟩⟩
  d_is_cuts := ⟨f22, _, ⟨fun_mk (st := s_is_cuts) l22 c22 k22, PySem.W.mg_of X G a22, (fun_mk (st := s_is_cuts) l22 c22 k22).binds fun _ _ _ _ _ _ us hl => match us, hl with | [_, _], _ => rfl⟩⟩
  d_want_cuts := ⟨f23, _, ⟨fun_mk (st := s_want_cuts) l23 c23 k23, PySem.W.mg_of X G a23, (fun_mk (st := s_want_cuts) l23 c23 k23).binds fun _ _ _ _ _ _ us hl => match us, hl with | [_, _], _ => rfl⟩⟩
  d_rim_letters := ⟨f24, _, ⟨fun_mk (st := s_rim_letters) l24 c24 k24, PySem.W.mg_of X G a24, (fun_mk (st := s_rim_letters) l24 c24 k24).binds fun _ _ _ _ _ _ us hl => match us, hl with | [_, _], _ => rfl⟩⟩
  d_is_letter_of := ⟨f25, _, ⟨fun_mk (st := s_is_letter_of) l25 c25 k25, PySem.W.mg_of X G a25, (fun_mk (st := s_is_letter_of) l25 c25 k25).binds fun _ _ _ _ _ _ us hl => match us, hl with | [_, _, _], _ => rfl⟩⟩
  d_is_letter := ⟨f26, _, ⟨fun_mk (st := s_is_letter) l26 c26 k26, PySem.W.mg_of X G a26, (fun_mk (st := s_is_letter) l26 c26 k26).binds fun _ _ _ _ _ _ us hl => match us, hl with | [_, _, _], _ => rfl⟩⟩
  d_is_word_in := ⟨f27, _, ⟨fun_mk (st := s_is_word_in) l27 c27 k27, PySem.W.mg_of X G a27, (fun_mk (st := s_is_word_in) l27 c27 k27).binds fun _ _ _ _ _ _ us hl => match us, hl with | [_, _], _ => rfl⟩⟩
  d_is_work := ⟨f28, _, ⟨fun_mk (st := s_is_work) l28 c28 k28, PySem.W.mg_of X G a28, (fun_mk (st := s_is_work) l28 c28 k28).binds fun _ _ _ _ _ _ us hl => match us, hl with | [_, _], _ => rfl⟩⟩
  d_are_works := ⟨f29, _, ⟨fun_mk (st := s_are_works) l29 c29 k29, PySem.W.mg_of X G a29, (fun_mk (st := s_are_works) l29 c29 k29).binds fun _ _ _ _ _ _ us hl => match us, hl with | [_, _], _ => rfl⟩⟩
  d_is_schedule := ⟨f30, _, ⟨fun_mk (st := s_is_schedule) l30 c30 k30, PySem.W.mg_of X G a30, (fun_mk (st := s_is_schedule) l30 c30 k30).binds fun _ _ _ _ _ _ us hl => match us, hl with | [_, _, _], _ => rfl⟩⟩
  d__law_right := ⟨f31, _, ⟨fun_mk (st := s__law_right) l31 c31 k31, PySem.W.mg_of X G a31, (fun_mk (st := s__law_right) l31 c31 k31).binds fun _ _ _ _ _ _ us hl => match us, hl with | [_], _ => rfl⟩⟩
  d__law_pot := ⟨f32, _, ⟨fun_mk (st := s__law_pot) l32 c32 k32, PySem.W.mg_of X G a32, (fun_mk (st := s__law_pot) l32 c32 k32).binds fun _ _ _ _ _ _ us hl => match us, hl with | [_, _], _ => rfl⟩⟩
  d_law := ⟨f33, _, ⟨fun_mk (st := s_law) l33 c33 k33, PySem.W.mg_of X G a33, (fun_mk (st := s_law) l33 c33 k33).binds fun _ _ _ _ _ _ us hl => match us, hl with | [_], _ => rfl⟩⟩
  z_abs := PySem.W.mg_none_of X G z0
  z_all := PySem.W.mg_none_of X G z1
  z_bool := PySem.W.mg_none_of X G z2
  z_divmod := PySem.W.mg_none_of X G z3
  z_int := PySem.W.mg_none_of X G z4
  z_isinstance := PySem.W.mg_none_of X G z5
  z_len := PySem.W.mg_none_of X G z6
  z_list := PySem.W.mg_none_of X G z7
  z_max := PySem.W.mg_none_of X G z8
  z_min := PySem.W.mg_none_of X G z9
  z_range := PySem.W.mg_none_of X G z10
  z_repr := PySem.W.mg_none_of X G z11
  z_sorted := PySem.W.mg_none_of X G z12
  z_str := PySem.W.mg_none_of X G z13
  z_tuple := PySem.W.mg_none_of X G z14
  z_zip := PySem.W.mg_none_of X G z15
  g_BRING := ⟨_, PySem.W.mg_of X G g0⟩
  g_FALL := ⟨_, PySem.W.mg_of X G g1⟩
  g_GO := ⟨_, PySem.W.mg_of X G g2⟩
  g_LEAST_STATES := ⟨_, PySem.W.mg_of X G g3⟩
  g_LETTER := ⟨_, PySem.W.mg_of X G g4⟩
  g_MOST_CUT := ⟨_, PySem.W.mg_of X G g5⟩
  g_MOST_CUTS := ⟨_, PySem.W.mg_of X G g6⟩
  g_MOST_LOW := ⟨_, PySem.W.mg_of X G g7⟩
  g_MOST_STATES := ⟨_, PySem.W.mg_of X G g8⟩
  g_MOST_STEPS := ⟨_, PySem.W.mg_of X G g9⟩
  g_MOST_TABLE := ⟨_, PySem.W.mg_of X G g10⟩
  g_MOST_TICK := ⟨_, PySem.W.mg_of X G g11⟩
  g_RULE := ⟨_, PySem.W.mg_of X G g12⟩
end K94
namespace K94
open PySem PySem.Spec PyProof.Rows L2 Pu
/-! ### the pot, the law -/
def Keeps (H H' : Hp) : Prop := ∀ b x, H b = some x → H' b = some x
theorem keeps_seq {K : Fg} {H H' : Hp} {a : Addr} {xs : List V} (k : Keeps H H') (h : SqL K H a xs) : SqL K H' a xs := by
  rcases h with (h | ⟨o, h⟩) | h
  · exact .inl (.inl (k _ _ h))
  · exact .inl (.inr ⟨o, k _ _ h⟩)
  · exact .inr h
def spPot (K : Fg) : SpS := fun vs H Q => ∃ (a : Addr) (ns : List Int) (k : Nat), vs = [.ref a, .int k] ∧ SqL K H a (ns.map V.int) ∧ ns.length ≤ 1000 ∧ k ≤ 1000 ∧ ∀ H' p x y, Keeps H H' → H p = none → H' p = some (.lst [.int x, .int y]) → Q (.ref p) H'
def spLaw (K : Fg) : SpS := fun vs H Q => ∃ (a : Addr) (ns : List Int), vs = [.ref a] ∧ SqL K H a (ns.map V.int) ∧ ns.length ≤ 1000 ∧ ∀ H', Q (.bl true) H'
def tCell (K : Fg) : TE := fun σ H Q => (∃ (a : Addr) (ns : List Int) (k : Nat), σ[0]? = some (some (.ref a)) ∧ σ[1]? = some (some (.int k)) ∧ SqL K H a (ns.map V.int) ∧ ns.length ≤ 1000 ∧ k ≤ 1000) ∧ ∀ c : Int, Q (.int c) H
theorem pe_cell {X : Cx} {e : Expr} {t : TE} (h : PE X e t) (i : ∀ σ H Q, tCell X.K σ H Q → t σ H Q) : PE X e (tCell X.K) := PEimp h i
theorem pos_of {c j : Int} (h : 0 < j) : (fun _ j => 0 < j : Int → Int → Prop) c j := h
theorem scP : FnScope ["script", "k", "cell"] ["script", "k"] (defScope s__law_pot) := ⟨rfl, rfl, rfl, by decide +kernel, rfl, by decide +kernel, by decide +kernel⟩
theorem scL : FnScope ["script", "k"] ["script"] (defScope s_law) := ⟨rfl, rfl, rfl, by decide +kernel, rfl, by decide +kernel, by decide +kernel⟩
section
variable {P : Program} {w : World} {K : Fg} {mg : Str → Option Value} {base : Heap}
theorem ok_pot (T : Tx K mg) : ∃ f fd, Df K mg "_law_pot" s__law_pot ["script", "k"] f fd ∧ FnS P w K mg base 1 f fd ["script", "k"] (spPot K) := by
  obtain ⟨f, fd, D⟩ := T.d__law_pot
  have z_len := T.z_len
  have z_abs := T.z_abs
  have z_max := T.z_max
  have z_int := T.z_int
  refine ⟨f, fd, D, FnS.of D.F scP (fun vs H Q ⟨a, ns, k, e, _⟩ => by rw [e]; rfl) fun cdv A outer s H vs Q hgd hr h => ?_⟩
  obtain ⟨a, ns, k, rfl, hS, hl, hk, q⟩ := h
  refine ⟨_, pss_cons (ps_set (i := 2) scP.nd rfl (.inl rfl) (pe_cell (pe_ifExp (pt_cmpR op_lt (pv 1) (pe_callB call_len rfl z_len (by decide +kernel) (pa_cons (pv 0) pa_nil)) (nomark _))
      (pe_callB call_abs rfl z_abs (by decide +kernel) (pa_cons (pe_ix ix_list (pv 0) (pv 1) (fun _ _ => rfl)) pa_nil)) (pe_op op_add (pe_op op_mul pe_int (pv 1)) pe_int)) fun σ H Q h => ?_))
    (pss_one (ps_ret (pe_lst (pa_cons (pe_callB (call_max2 rfl) rfl z_max (by decide +kernel) (pa_cons pe_int (pa_cons (pe_op op_sub (pv 2) (pe_op op_pow pe_int pe_int)) pa_nil)))
      (pa_cons (pe_op op_add (pe_op op_mod (pe_callTy call_int1 rfl z_int (by decide +kernel) (pa_cons (pe_op op_add (pe_op op_add (pe_op op_mul (pe_op op_mod (pe_callTy call_int1 rfl z_int (by decide +kernel) (pa_cons (pv 2) pa_nil)) pe_int) pe_int) (pe_op op_mul pe_int (pv 1))) pe_int) pa_nil)) pe_int) pe_int) pa_nil))))), ?_⟩
  · obtain ⟨⟨a, ns, k, h0, h1, hS, hl, hk⟩, q⟩ := h
    refine ⟨.int k, h1, .ref a, h0, .ref a, _, rfl, .inl ⟨_, hS, rfl⟩, _, _, rfl, rfl, _, rfl, ite2 (fun e => ?_) (fun e => ?_)⟩
    · have e1 : (k : Int) < ((ns.map V.int).length : Nat) := of_decide_eq_true e
      have e2 : k < ns.length := by
        rw [List.length_map] at e1
        omega
      refine ⟨.ref a, h0, .int k, h1, a, _, k, .int ns[k], rfl, rfl, hS, atI_nat (by rw [List.getElem?_map, List.getElem?_eq_getElem e2]; rfl), _, rfl, q _⟩
    · refine ⟨.int k, h1, _, _, rfl, rfl, .inl ⟨by decide, by decide⟩, _, _, rfl, rfl, q _⟩
  · refine ⟨⟨a, ns, k, rfl, rfl, hS, hl, hk⟩, fun c => ?_⟩
    refine ⟨.int c, rfl, _, _, rfl, rfl, ⟨by decide, by decide, by decide⟩, _, _, rfl, rfl, _, _, rfl, ?_⟩
    refine ⟨.int c, rfl, .inl ⟨c, rfl, _, _, rfl, rfl, (by show (0 : Int) < _; decide), _, _, rfl, rfl, .inr ⟨by decide, by decide⟩, .int k, rfl, _, _, rfl, rfl, .inl ⟨by decide, by decide⟩, _, _, rfl, rfl, _, _, rfl, rfl, .inl ⟨_, rfl, _, _, rfl, rfl, (by show (0 : Int) < _; decide), _, _, rfl, rfl, ?_⟩⟩⟩
    refine ⟨(by decide : 2 ≤ sizeLine), fun p np => ?_⟩
    exact q _ p _ _ (fun b x e => by rw [upd_ne (ne_of_none e np)]; exact e) np upd_same
theorem ok_law {f : Addr} {fd : FuncData} (T : Tx K mg) (D : Df K mg "law" s_law ["script"] f fd) (math : ∀ p : Pot, ∃ p', F_law_right [.pot] p = some (.sh (.bool true), p')) : FnS P w K mg base 16 f fd ["script"] (spLaw K) := by
  obtain ⟨_, _, Dp, Gp⟩ := ok_pot (P := P) (w := w) (base := base) T
  obtain ⟨_, _, Dr, Gr⟩ := ok_law_right (P := P) (w := w) (base := base) T
  have Gr := Gr.toS
  have z_len := T.z_len
  have z_all := T.z_all
  have z_max := T.z_max
  have z_min := T.z_min
  have z_range := T.z_range
  have nd := scL.nd
  refine FnS.of D.F scL (fun vs H Q ⟨a, ns, e, _⟩ => by rw [e]; rfl) fun cdv A outer s H vs Q hgd hr h => ?_
  obtain ⟨a, ns, rfl, hS, hl, q⟩ := h
  refine ⟨_, pss_one (ps_ret (pe_callB (cr_all rfl) rfl z_all (by decide +kernel) (pa_cons (pe_lc (own := [("k", 1)]) rfl nd
      (pi_range1 rfl z_range (pa_cons (pe_callB (call_max2 rfl) rfl z_max (by decide +kernel) (pa_cons pe_int (pa_cons (pe_callB (call_min2 rfl) rfl z_min (by decide +kernel) (pa_cons pe_int (pa_cons (pe_callB call_len rfl z_len (by decide +kernel) (pa_cons (pv 0) pa_nil)) pa_nil))) pa_nil))) pa_nil))
      (blkOk_by (N := ["script", "k"]) (sc := defScope s_law) (by decide +kernel)) (fun _ _ _ _ _ => pg_name (i := 1) nd rfl (.inl rfl)) (fun _ _ _ _ _ => pts_nil)
      (fun _ _ _ _ _ => pe_callS Gr hgd (hr.mono (by decide)) Dr.m Dr.F.kp Dr.b (pa_cons (pe_callS Gp hgd (hr.mono (by decide)) Dp.m Dp.F.kp Dp.b (pa_cons (pv 0) (pa_cons (pv 1) pa_nil))) pa_nil))) pa_nil))), ?_⟩
  refine ⟨.ref a, rfl, .ref a, _, rfl, .inl ⟨_, hS, rfl⟩, ?_⟩
  rw [List.length_map]
  refine ⟨_, _, rfl, _, _, rfl, _, rfl, by omega, by omega, fun L nL => ?_⟩
  have k0 : Keeps H (upd H L (.lst [])) := fun b x e => by rw [upd_ne (ne_of_none e nL)]; exact e
  generalize hn : (if (if (ns.length : Int) < 2 then (ns.length : Int) else 2) > 1 then (if (ns.length : Int) < 2 then (ns.length : Int) else 2) else 1).toNat = n
  have hn2 : n ≤ 2 := by omega
  clear hn
  refine ⟨fun i m H' => m = n - i ∧ i ≤ n ∧ ∃ bs : List Bool, H' L = some (.lst (bs.map V.bl)) ∧ bs.length = i ∧ (∀ b ∈ bs, b = true) ∧ Keeps H H',
    ⟨n, by simp, Nat.zero_le _, [], upd_same, rfl, (fun b hb => by simp at hb), k0⟩, fun i m H' hW => ?_⟩
  obtain ⟨rfl, hi, bs, hL, hbl, hbt, kH⟩ := hW
  have hS' := keeps_seq kH hS
  by_cases hlt : i < n
  · refine .inr ⟨hlt, fun H2 => ∃ bs : List Bool, H2 L = some (.lst (bs.map V.bl)) ∧ bs.length = i + 1 ∧ (∀ b ∈ bs, b = true) ∧ Keeps H H2, fun H2 hN => ⟨n - (i + 1), by omega, rfl, hlt, hN⟩, fun x H2 hy => ?_⟩
    obtain ⟨rfl, rfl⟩ := hy
    refine ⟨rfl, ?_⟩
    refine ⟨.ref a, rfl, .int (0 + i), rfl, a, ns, i, by rw [Int.zero_add], hS', hl, by omega, fun H3 p x y k3 np hp => ?_⟩
    obtain ⟨p', hm⟩ := math (x, y)
    refine ⟨rfl, p, fun b => b = p, [.pot], (x, y), _, p', fun b hb => (by rw [hb, hp]; exact fun z => nomatch z), rfl, hp, ⟨rfl, True.intro⟩, hm, fun v H4 hr4 => ?_⟩
    obtain ⟨k4, _, rd⟩ := hr4
    have ev : v = .bl true := by simpa only [RD] using rd
    subst ev
    have nLp : L ≠ p := ne_of_none hL np
    have k34 : ∀ b x, b ≠ p → H3 b = some x → H4 b = some x := k4
    have s4 : Keeps H2 H4 := fun b x e => k34 b x (ne_of_none e np) (k3 b x e)
    refine ⟨_, s4 _ _ hL, by rw [List.length_map, hbl]; exact Nat.lt_of_lt_of_le (show i < 2 by omega) (by decide), bs ++ [true], by rw [upd_same, List.map_append]; rfl, by rw [List.length_append, hbl]; rfl, fun b hb => ?_, ?_⟩
    · rcases List.mem_append.mp hb with hb | hb
      · exact hbt b hb
      · simpa using hb
    · exact fun b x e => by rw [upd_ne (ne_of_none e nL)]; exact s4 _ _ (kH _ _ e)
  · have ei : i = n := by omega
    refine .inl ⟨by show n ≤ i; omega, L, bs, rfl, .inl (.inl hL), ?_⟩
    have eb : bs.all id = true := List.all_eq_true.mpr hbt
    rw [eb]
    exact q _
theorem top_law {K : Fg} {mg : Str → Option Value} {P : Program} {w : World} {fa : Addr} (T : Tx K mg) (hfa : mg "law" = some (.ref fa)) (math : ∀ p : Pot, ∃ p', F_law_right [.pot] p = some (.sh (.bool true), p')) :
    ∃ fd : FuncData, (∀ (s : Shared) (u : Value), BindsTo s fd ⟨[u], []⟩ [("script", u)]) ∧ ∀ base : Heap, K.In base → base.Ns mainGlobals mg → FnS P w K mg base 16 fa fd ["script"] (spLaw K) := by
  obtain ⟨f, fd, D⟩ := T.d_law
  have e := hfa.symm.trans D.m
  cases e
  refine ⟨fd, fun s u => ?_, fun base _ _ => ok_law T D math⟩
  obtain ⟨oc, od, kV, doc, pm, an, cdv, ct, osl, rfl, lk, hcd⟩ := D.F.ex
  exact .of_eq rfl
end
end K94
open PySem PySem.W PyProof.Rows
set_option maxHeartbeats 0 in
theorem PySem.Challenge.cw_nearcells_k94_any_value_as_cuts_letter_s_holds : PySem.Challenge.rw_nearcells_k94_any_value_as_cuts_letter_s.Holds := by
  w_on; o_law; k_head; (case hw => w_witness2)
  k_fill
  refine Pu.walk_law (l := PySem.Challenge.rw_nearcells_k94_any_value_as_cuts_letter_s) (n := 63) (k := 16) (x := "script") (sp := fun w => K94.spLaw _) rfl (by decide) rfl ⟨rfl, by decide, by decide⟩ (fun w h Y => PySem.W.kIn_of Y) ?F (fun _ _ a ns hl _ hS => ⟨a, ns, rfl, hS, by omega, fun _ => rfl⟩)
  case F =>
    intro w mg fa h KX G hmg
    refine K94.top_law ?tx hmg K94.math
    case tx =>
      refine' K94.tx_mk KX G ?a0 ?l0 ?c0 ?k0 ?a1 ?l1 ?c1 ?k1 ?a2 ?l2 ?c2 ?k2 ?a3 ?l3 ?c3 ?k3 ?a4 ?l4 ?c4 ?k4 ?a5 ?l5 ?c5 ?k5 ?a6 ?l6 ?c6 ?k6 ?a7 ?l7 ?c7 ?k7 ?a8 ?l8 ?c8 ?k8 ?a9 ?l9 ?c9 ?k9 ?a10 ?l10 ?c10 ?k10 ?a11 ?l11 ?c11 ?k11 ?a12 ?l12 ?c12 ?k12 ?a13 ?l13 ?c13 ?k13 ?a14 ?l14 ?c14 ?k14 ?a15 ?l15 ?c15 ?k15 ?a16 ?l16 ?c16 ?k16 ?a17 ?l17 ?c17 ?k17 ?a18 ?l18 ?c18 ?k18 ?a19 ?l19 ?c19 ?k19 ?a20 ?l20 ?c20 ?k20 ?a21 ?l21 ?c21 ?k21 ?a22 ?l22 ?c22 ?k22 ?a23 ?l23 ?c23 ?k23 ?a24 ?l24 ?c24 ?k24 ?a25 ?l25 ?c25 ?k25 ?a26 ?l26 ?c26 ?k26 ?a27 ?l27 ?c27 ?k27 ?a28 ?l28 ?c28 ?k28 ?a29 ?l29 ?c29 ?k29 ?a30 ?l30 ?c30 ?k30 ?a31 ?l31 ?c31 ?k31 ?a32 ?l32 ?c32 ?k32 ?a33 ?l33 ?c33 ?k33 ?z0 ?z1 ?z2 ?z3 ?z4 ?z5 ?z6 ?z7 ?z8 ?z9 ?z10 ?z11 ?z12 ?z13 ?z14 ?z15 ?gq0 ?gq1 ?gq2 ?gq3 ?gq4 ?gq5 ?gq6 ?gq7 ?gq8 ?gq9 ?gq10 ?gq11 ?gq12
      (case a0 => k_is); (case l0 => k_is); (case c0 => k_is); (case k0 => k_is); (case a1 => k_is); (case l1 => k_is); (case c1 => k_is); (case k1 => k_is)
      (case a2 => k_is); (case l2 => k_is); (case c2 => k_is); (case k2 => k_is); (case a3 => k_is); (case l3 => k_is); (case c3 => k_is); (case k3 => k_is)
      (case a4 => k_is); (case l4 => k_is); (case c4 => k_is); (case k4 => k_is); (case a5 => k_is); (case l5 => k_is); (case c5 => k_is); (case k5 => k_is)
      (case a6 => k_is); (case l6 => k_is); (case c6 => k_is); (case k6 => k_is); (case a7 => k_is); (case l7 => k_is); (case c7 => k_is); (case k7 => k_is)
      (case a8 => k_is); (case l8 => k_is); (case c8 => k_is); (case k8 => k_is); (case a9 => k_is); (case l9 => k_is); (case c9 => k_is); (case k9 => k_is)
      (case a10 => k_is); (case l10 => k_is); (case c10 => k_is); (case k10 => k_is); (case a11 => k_is); (case l11 => k_is); (case c11 => k_is); (case k11 => k_is)
      (case a12 => k_is); (case l12 => k_is); (case c12 => k_is); (case k12 => k_is); (case a13 => k_is); (case l13 => k_is); (case c13 => k_is); (case k13 => k_is)
      (case a14 => k_is); (case l14 => k_is); (case c14 => k_is); (case k14 => k_is); (case a15 => k_is); (case l15 => k_is); (case c15 => k_is); (case k15 => k_is)
      (case a16 => k_is); (case l16 => k_is); (case c16 => k_is); (case k16 => k_is); (case a17 => k_is); (case l17 => k_is); (case c17 => k_is); (case k17 => k_is)
      (case a18 => k_is); (case l18 => k_is); (case c18 => k_is); (case k18 => k_is); (case a19 => k_is); (case l19 => k_is); (case c19 => k_is); (case k19 => k_is)
      (case a20 => k_is); (case l20 => k_is); (case c20 => k_is); (case k20 => k_is); (case a21 => k_is); (case l21 => k_is); (case c21 => k_is); (case k21 => k_is)
      (case a22 => k_is); (case l22 => k_is); (case c22 => k_is); (case k22 => k_is); (case a23 => k_is); (case l23 => k_is); (case c23 => k_is); (case k23 => k_is)
      (case a24 => k_is); (case l24 => k_is); (case c24 => k_is); (case k24 => k_is); (case a25 => k_is); (case l25 => k_is); (case c25 => k_is); (case k25 => k_is)
      (case a26 => k_is); (case l26 => k_is); (case c26 => k_is); (case k26 => k_is); (case a27 => k_is); (case l27 => k_is); (case c27 => k_is); (case k27 => k_is)
      (case a28 => k_is); (case l28 => k_is); (case c28 => k_is); (case k28 => k_is); (case a29 => k_is); (case l29 => k_is); (case c29 => k_is); (case k29 => k_is)
      (case a30 => k_is); (case l30 => k_is); (case c30 => k_is); (case k30 => k_is); (case a31 => k_is); (case l31 => k_is); (case c31 => k_is); (case k31 => k_is)
      (case a32 => k_is); (case l32 => k_is); (case c32 => k_is); (case k32 => k_is); (case a33 => k_is); (case l33 => k_is); (case c33 => k_is); (case k33 => k_is)
      (case z0 => k_is); (case z1 => k_is); (case z2 => k_is); (case z3 => k_is); (case z4 => k_is); (case z5 => k_is); (case z6 => k_is); (case z7 => k_is)
      (case z8 => k_is); (case z9 => k_is); (case z10 => k_is); (case z11 => k_is); (case z12 => k_is); (case z13 => k_is); (case z14 => k_is); (case z15 => k_is)
      (case gq0 => k_is); (case gq1 => k_is); (case gq2 => k_is); (case gq3 => k_is); (case gq4 => k_is); (case gq5 => k_is); (case gq6 => k_is); (case gq7 => k_is)
      (case gq8 => k_is); (case gq9 => k_is); (case gq10 => k_is); (case gq11 => k_is); (case gq12 => k_is)
