import PyProof.Rows.All
import Wide.All
import OpenK.AllK
import Wide.FinOn
import HandS.ForMost
import HandS.IsInst
import HandS.TupAny
import HandS.TupMul
import HandS.Deep
import HandS.TupLen
import HandS.StrMore
import HandS.Zip
import HandS.Style
import PySem.Challenge.RW_nearcells_k11_whole_words_of_texts
set_option Elab.async false
set_option linter.all false
set_option maxRecDepth 100000
/-! Pu: a pure reading of Python defs over data (PyData), with owned containers and one pot; its soundness over HandS. -/
namespace Pu
open PySem PySem.Spec PyProof.Rows L2

abbrev Fg := PySem.W.Frag
abbrev Pred := Addr → Prop

/-- a tuple that the top has written -/
def KT (K : Fg) (a : Addr) (vs : List V) : Prop :=
  ∃ (o : Obj) (its : Array Value) (n : Nat), K.lookup a = some o ∧ o.cls = .type "tuple" ∧ o.data = .seq its n ∧ its.size ≤ sizeLine ∧ Vals vs its.toList

def kD : Key → PyData
  | .inl i => .int i
  | .inr s => .str s

mutual
/-- v is the datum d, no object of O is met on the way -/
def RD (K : Fg) (O : Pred) (H : Hp) : PyData → V → Prop
  | .none, v => v = .non
  | .bool b, v => v = .bl b
  | .int i, v => v = .int i
  | .str s, v => v = .str s
  | .list ds, v => ∃ a vs, v = .ref a ∧ ¬ O a ∧ H a = some (.lst vs) ∧ RDs K O H ds vs
  | .tuple ds, v => ∃ a vs, v = .ref a ∧ ((¬ O a ∧ H a = some (.tup vs)) ∨ KT K a vs) ∧ RDs K O H ds vs
  | .dict kvs, v => ∃ a, v = .ref a ∧ ¬ O a ∧
      ((∃ kv : List (Key × V), H a = some (.dK kv) ∧ kvs.map (·.1) = kv.map (fun p => kD p.1) ∧ RDk K O H kvs (kv.map (·.2))) ∨
       (∃ kv : List (List Key × V), H a = some (.dT kv) ∧ kvs.map (·.1) = kv.map (fun p => PyData.tuple (p.1.map kD)) ∧ RDk K O H kvs (kv.map (·.2))))
def RDs (K : Fg) (O : Pred) (H : Hp) : List PyData → List V → Prop
  | [], vs => vs = []
  | d :: ds, vs => ∃ v r, vs = v :: r ∧ RD K O H d v ∧ RDs K O H ds r
def RDk (K : Fg) (O : Pred) (H : Hp) : List (PyData × PyData) → List V → Prop
  | [], vs => vs = []
  | (_, d) :: ds, vs => ∃ v r, vs = v :: r ∧ RD K O H d v ∧ RDk K O H ds r
end

section
variable {K : Fg} {O O' : Pred} {H H' : Hp}
mutual
theorem RD.map (h : ∀ b x, ¬ O b → H b = some x → ¬ O' b ∧ H' b = some x) : ∀ {d : PyData} {v : V}, RD K O H d v → RD K O' H' d v
  | .none, _, r => by simpa only [RD] using r
  | .bool _, _, r => by simpa only [RD] using r
  | .int _, _, r => by simpa only [RD] using r
  | .str _, _, r => by simpa only [RD] using r
  | .list ds, v, r => by
    simp only [RD] at r ⊢
    obtain ⟨a, vs, e, n, ha, hs⟩ := r
    exact ⟨a, vs, e, (h _ _ n ha).1, (h _ _ n ha).2, RDs.map h hs⟩
  | .tuple ds, v, r => by
    simp only [RD] at r ⊢
    obtain ⟨a, vs, e, q, hs⟩ := r
    refine ⟨a, vs, e, ?_, RDs.map h hs⟩
    rcases q with ⟨n, ha⟩ | k
    · exact .inl (h _ _ n ha)
    · exact .inr k
  | .dict kvs, v, r => by
    simp only [RD] at r ⊢
    obtain ⟨a, e, n, q⟩ := r
    rcases q with ⟨kv, ha, ek, hs⟩ | ⟨kv, ha, ek, hs⟩
    · exact ⟨a, e, (h _ _ n ha).1, .inl ⟨kv, (h _ _ n ha).2, ek, RDk.map h hs⟩⟩
    · exact ⟨a, e, (h _ _ n ha).1, .inr ⟨kv, (h _ _ n ha).2, ek, RDk.map h hs⟩⟩
theorem RDs.map (h : ∀ b x, ¬ O b → H b = some x → ¬ O' b ∧ H' b = some x) : ∀ {ds : List PyData} {vs : List V}, RDs K O H ds vs → RDs K O' H' ds vs
  | [], _, r => by simpa only [RDs] using r
  | d :: ds, _, r => by
    simp only [RDs] at r ⊢
    obtain ⟨v, t, e, h1, h2⟩ := r
    exact ⟨v, t, e, RD.map h h1, RDs.map h h2⟩
theorem RDk.map (h : ∀ b x, ¬ O b → H b = some x → ¬ O' b ∧ H' b = some x) : ∀ {ds : List (PyData × PyData)} {vs : List V}, RDk K O H ds vs → RDk K O' H' ds vs
  | [], _, r => by simpa only [RDk] using r
  | (k, d) :: ds, _, r => by
    simp only [RDk] at r ⊢
    obtain ⟨v, t, e, h1, h2⟩ := r
    exact ⟨v, t, e, RD.map h h1, RDk.map h h2⟩
end

/-- what stands in the container c at a -/
def RC (K : Fg) (O : Pred) (H : Hp) (c : PyData) (a : Addr) : Prop := match c with
  | .list ds => ∃ vs, H a = some (.lst vs) ∧ RDs K O H ds vs
  | .dict kvs => (∃ kv : List (Key × V), H a = some (.dK kv) ∧ kvs.map (·.1) = kv.map (fun p => kD p.1) ∧ RDk K O H kvs (kv.map (·.2))) ∨
       (∃ kv : List (List Key × V), H a = some (.dT kv) ∧ kvs.map (·.1) = kv.map (fun p => PyData.tuple (p.1.map kD)) ∧ RDk K O H kvs (kv.map (·.2)))
  | _ => False
theorem RC.rd {c : PyData} {a : Addr} (h : RC K O H c a) (n : ¬ O a) : RD K O H c (.ref a) := by
  cases c with
  | list ds =>
    obtain ⟨vs, h1, h2⟩ := h
    simp only [RD]
    exact ⟨a, vs, rfl, n, h1, h2⟩
  | dict kvs =>
    simp only [RD]
    exact ⟨a, rfl, n, h⟩
  | _ => exact h.elim
theorem RC.there {c : PyData} {a : Addr} (h : RC K O H c a) : ∃ o, H a = some o := by
  cases c with
  | list ds => obtain ⟨vs, h1, _⟩ := h; exact ⟨_, h1⟩
  | dict kvs =>
    rcases h with ⟨kv, h1, _⟩ | ⟨kv, h1, _⟩
    · exact ⟨_, h1⟩
    · exact ⟨_, h1⟩
  | _ => exact h.elim
theorem RC.map {c : PyData} {a : Addr} (h : ∀ b x, ¬ O b → H b = some x → ¬ O' b ∧ H' b = some x) (ha : ∀ x, H a = some x → H' a = some x) (r : RC K O H c a) : RC K O' H' c a := by
  cases c with
  | list ds => obtain ⟨vs, h1, h2⟩ := r; exact ⟨vs, ha _ h1, h2.map h⟩
  | dict kvs =>
    rcases r with ⟨kv, h1, ek, h2⟩ | ⟨kv, h1, ek, h2⟩
    · exact .inl ⟨kv, ha _ h1, ek, h2.map h⟩
    · exact .inr ⟨kv, ha _ h1, ek, h2.map h⟩
  | _ => exact r.elim

/-- no object is met at all -/
def flat : PyData → Bool
  | .none | .bool _ | .int _ | .str _ => true
  | _ => false
theorem RD.flat {d : PyData} {v : V} (f : flat d = true) (r : RD K O H d v) : RD K O' H' d v := by
  cases d with
  | none => simpa only [RD] using r
  | bool _ => simpa only [RD] using r
  | int _ => simpa only [RD] using r
  | str _ => simpa only [RD] using r
  | _ => cases f

theorem RDs.nil_iff {vs : List V} : RDs K O H [] vs ↔ vs = [] := by simp only [RDs]
theorem RDs.cons {d : PyData} {ds : List PyData} {v : V} {vs : List V} (h : RD K O H d v) (t : RDs K O H ds vs) : RDs K O H (d :: ds) (v :: vs) := by
  simp only [RDs]
  exact ⟨v, vs, rfl, h, t⟩
theorem RDs.nil : RDs K O H [] [] := by simp only [RDs]
theorem RDs.length : ∀ {ds : List PyData} {vs : List V}, RDs K O H ds vs → vs.length = ds.length
  | [], _, r => by simp only [RDs] at r; subst r; rfl
  | d :: ds, _, r => by
    simp only [RDs] at r
    obtain ⟨v, t, rfl, _, h⟩ := r
    simp [RDs.length h]
theorem RDs.get : ∀ {ds : List PyData} {vs : List V} {i : Nat} {d : PyData}, RDs K O H ds vs → ds[i]? = some d → ∃ v, vs[i]? = some v ∧ RD K O H d v
  | [], _, _, _, _, e => by simp at e
  | x :: ds, _, 0, d, r, e => by
    simp only [RDs] at r
    obtain ⟨v, t, rfl, h, _⟩ := r
    simp at e; subst e
    exact ⟨v, rfl, h⟩
  | x :: ds, _, i + 1, d, r, e => by
    simp only [RDs] at r
    obtain ⟨v, t, rfl, _, h⟩ := r
    obtain ⟨u, h1, h2⟩ := RDs.get (i := i) (d := d) h (by simpa using e)
    exact ⟨u, by simpa using h1, h2⟩
theorem RDs.get' : ∀ {ds : List PyData} {vs : List V} {i : Nat} {v : V}, RDs K O H ds vs → vs[i]? = some v → ∃ d, ds[i]? = some d ∧ RD K O H d v
  | [], _, _, _, r, e => by simp only [RDs] at r; subst r; simp at e
  | x :: ds, _, 0, d, r, e => by
    simp only [RDs] at r
    obtain ⟨v, t, rfl, h, _⟩ := r
    simp at e; subst e
    exact ⟨x, rfl, h⟩
  | x :: ds, _, i + 1, d, r, e => by
    simp only [RDs] at r
    obtain ⟨v, t, rfl, _, h⟩ := r
    obtain ⟨u, h1, h2⟩ := RDs.get' (i := i) (v := d) h (by simpa using e)
    exact ⟨u, by simpa using h1, h2⟩
theorem RDs.append : ∀ {ds es : List PyData} {vs us : List V}, RDs K O H ds vs → RDs K O H es us → RDs K O H (ds ++ es) (vs ++ us)
  | [], _, _, _, r, s => by simp only [RDs] at r; subst r; exact s
  | d :: ds, _, _, _, r, s => by
    simp only [RDs] at r
    obtain ⟨v, t, rfl, h, h2⟩ := r
    exact .cons h (RDs.append h2 s)
theorem RDs.take : ∀ {ds : List PyData} {vs : List V} (n : Nat), RDs K O H ds vs → RDs K O H (ds.take n) (vs.take n)
  | _, _, 0, _ => by simpa using RDs.nil
  | [], _, n + 1, r => by simp only [RDs] at r; subst r; simpa using RDs.nil
  | d :: ds, _, n + 1, r => by
    simp only [RDs] at r
    obtain ⟨v, t, rfl, h, h2⟩ := r
    exact .cons h (RDs.take n h2)
theorem RDs.drop : ∀ {ds : List PyData} {vs : List V} (n : Nat), RDs K O H ds vs → RDs K O H (ds.drop n) (vs.drop n)
  | _, _, 0, r => r
  | [], _, n + 1, r => by simp only [RDs] at r; subst r; simpa using RDs.nil
  | d :: ds, _, n + 1, r => by
    simp only [RDs] at r
    obtain ⟨v, t, rfl, h, h2⟩ := r
    exact RDs.drop n h2
theorem RDs.rev : ∀ {ds : List PyData} {vs : List V}, RDs K O H ds vs → RDs K O H ds.reverse vs.reverse
  | [], _, r => by simp only [RDs] at r; subst r; simpa using RDs.nil
  | d :: ds, _, r => by
    simp only [RDs] at r
    obtain ⟨v, t, rfl, h, h2⟩ := r
    rw [List.reverse_cons, List.reverse_cons]
    exact RDs.append (RDs.rev h2) (.cons h .nil)
theorem RDs.rep {ds : List PyData} {vs : List V} (r : RDs K O H ds vs) : ∀ n : Nat, RDs K O H (List.replicate n ds).flatten (List.replicate n vs).flatten
  | 0 => by simpa using RDs.nil
  | n + 1 => by
    rw [List.replicate_succ, List.replicate_succ, List.flatten_cons, List.flatten_cons]
    exact RDs.append r (RDs.rep r n)
theorem RDs.set : ∀ {ds : List PyData} {vs : List V} (i : Nat) {d : PyData} {v : V}, RDs K O H ds vs → RD K O H d v → RDs K O H (ds.set i d) (vs.set i v)
  | [], _, _, _, _, r, _ => by simp only [RDs] at r; subst r; simpa using RDs.nil
  | x :: ds, _, 0, _, _, r, s => by
    simp only [RDs] at r
    obtain ⟨v, t, rfl, h, h2⟩ := r
    exact .cons s h2
  | x :: ds, _, i + 1, _, _, r, s => by
    simp only [RDs] at r
    obtain ⟨v, t, rfl, h, h2⟩ := r
    exact .cons h (RDs.set i h2 s)
theorem RDs.ints (ns : List Int) : RDs K O H (ns.map PyData.int) (ns.map V.int) := by
  induction ns with
  | nil => exact .nil
  | cons n ns ih => exact .cons (by simp only [RD]) ih
theorem RDs.strs (ns : List Str) : RDs K O H (ns.map PyData.str) (ns.map V.str) := by
  induction ns with
  | nil => exact .nil
  | cons n ns ih => exact .cons (by simp only [RD]) ih
theorem RDs.bools (ns : List Bool) : RDs K O H (ns.map PyData.bool) (ns.map V.bl) := by
  induction ns with
  | nil => exact .nil
  | cons n ns ih => exact .cons (by simp only [RD]) ih
theorem RDs.of_ints : ∀ {ns : List Int} {vs : List V}, RDs K O H (ns.map PyData.int) vs → vs = ns.map V.int
  | [], _, r => by simpa only [RDs, List.map_nil] using r
  | n :: ns, _, r => by
    simp only [RDs, List.map_cons, RD] at r
    obtain ⟨v, t, rfl, rfl, h⟩ := r
    rw [RDs.of_ints h]; rfl
theorem RDs.of_strs : ∀ {ns : List Str} {vs : List V}, RDs K O H (ns.map PyData.str) vs → vs = ns.map V.str
  | [], _, r => by simpa only [RDs, List.map_nil] using r
  | n :: ns, _, r => by
    simp only [RDs, List.map_cons, RD] at r
    obtain ⟨v, t, rfl, rfl, h⟩ := r
    rw [RDs.of_strs h]; rfl
theorem RDs.of_bools : ∀ {ns : List Bool} {vs : List V}, RDs K O H (ns.map PyData.bool) vs → vs = ns.map V.bl
  | [], _, r => by simpa only [RDs, List.map_nil] using r
  | n :: ns, _, r => by
    simp only [RDs, List.map_cons, RD] at r
    obtain ⟨v, t, rfl, rfl, h⟩ := r
    rw [RDs.of_bools h]; rfl

/-! ### data without dicts, as the deep rules take them -/
mutual
theorem RD.dp : ∀ {d : PyData} {v : V}, RD K O H d v → d.hasDict = false → Dp K H v d
  | .none, _, r, _ => by simp only [RD] at r; subst r; exact .non
  | .bool _, _, r, _ => by simp only [RD] at r; subst r; exact .bl _
  | .int _, _, r, _ => by simp only [RD] at r; subst r; exact .int _
  | .str _, _, r, _ => by simp only [RD] at r; subst r; exact .str _
  | .list ds, _, r, n => by
    simp only [RD] at r
    obtain ⟨a, vs, rfl, _, h1, h2⟩ := r
    exact .lst (SqL.of h1) (RDs.dp h2 (by simpa only [PyData.hasDict] using n))
  | .tuple ds, _, r, n => by
    simp only [RD] at r
    obtain ⟨a, vs, rfl, q, h2⟩ := r
    refine .tup ?_ (RDs.dp h2 (by simpa only [PyData.hasDict] using n))
    rcases q with ⟨_, h1⟩ | k
    · exact SqT.of h1
    · exact .inr k
  | .dict _, _, _, n => by simp only [PyData.hasDict] at n; cases n
theorem RDs.dp : ∀ {ds : List PyData} {vs : List V}, RDs K O H ds vs → PyData.hasDictAll ds = false → DpAll K H vs ds
  | [], _, r, _ => by simp only [RDs] at r; subst r; exact .nil
  | d :: ds, _, r, n => by
    simp only [RDs] at r
    obtain ⟨v, t, rfl, h, h2⟩ := r
    simp only [PyData.hasDictAll, Bool.or_eq_false_iff] at n
    exact .cons (RD.dp h n.1) (RDs.dp h2 n.2)
end
end
end Pu
namespace Pu
open PySem PySem.Spec PyProof.Rows L2

/-- the pot's two numbers -/
abbrev Pot := Int × Int
/-- a value as the reading has it: shared data; data that may reach an owned slot; a new container; the container of slot i; a list behind a call without objects; the pot -/
inductive Val where
  | sh (d : PyData) | bo (d : PyData) | fr (c : PyData) | ow (i : Nat) (c : PyData) | is (c : PyData) | pot
inductive Slot where
  | un | sh (d : PyData) | own (c : PyData) | iso (c : PyData) | pot
abbrev Sl := List Slot
abbrev Ev := Sl → Pot → Option (Val × Pot)
inductive Out where
  | nx (sl : Sl) (p : Pot) | bk (sl : Sl) (p : Pot) | ct (sl : Sl) (p : Pot) | rt (v : Val) (p : Pot)
abbrev Sm := Sl → Pot → Option Out

/-- what stands fixed through a call -/
structure Fc where
  ap : Addr
  H0 : Hp
  Oc : Pred
/-- all but the pot is as it was, the pot holds p -/
structure Ex (F : Fc) (H H' : Hp) (p : Pot) : Prop where
  keep : ∀ b x, b ≠ F.ap → H b = some x → H' b = some x
  pot : H' F.ap = some (.lst [.int p.1, .int p.2])
theorem Ex.trans {F : Fc} {H H1 H2 : Hp} {p q : Pot} (a : Ex F H H1 p) (b : Ex F H1 H2 q) : Ex F H H2 q := ⟨fun c x n e => b.keep c x n (a.keep c x n e), b.pot⟩

def isBox (s : Slot) : Bool := match s with
  | .own _ => true
  | .iso _ => true
  | _ => false
/-- O without the owned slots' containers -/
def Ob (O : Pred) (A : Nat → Addr) (sl : Sl) : Pred := fun b => O b ∧ ∀ i s, sl[i]? = some s → isBox s = true → b ≠ A i
def Oa (O : Pred) (q : Addr) : Pred := fun b => O b ∨ b = q
def SlotR (K : Fg) (F : Fc) (O : Pred) (A : Nat → Addr) (σ : L2.St) (H : Hp) (i : Nat) : Slot → Prop
  | .un => True
  | .sh d => ∃ v, σ[i]? = some (some v) ∧ RD K O H d v
  | .own c => σ[i]? = some (some (.ref (A i))) ∧ RC K O H c (A i) ∧ O (A i) ∧ F.H0 (A i) = none
  | .iso c => σ[i]? = some (some (.ref (A i))) ∧ RD K (fun b => O b ∧ b ≠ A i) H c (.ref (A i)) ∧ O (A i) ∧ F.H0 (A i) = none ∧ H (A i) ≠ none
  | .pot => σ[i]? = some (some (.ref F.ap))
structure Rl (K : Fg) (F : Fc) (O : Pred) (A : Nat → Addr) (sl : Sl) (p : Pot) (σ : L2.St) (H : Hp) : Prop where
  dom : ∀ b, O b → H b ≠ none
  cur : ∀ b, F.Oc b → O b
  cd : ∀ b, F.Oc b → F.H0 b ≠ none
  apO : F.Oc F.ap
  ext : ∀ b x, b ≠ F.ap → F.H0 b = some x → H b = some x
  pot : H F.ap = some (.lst [.int p.1, .int p.2])
  slot : ∀ i s, sl[i]? = some s → SlotR K F O A σ H i s
  inj : ∀ i j s t, sl[i]? = some s → isBox s = true → sl[j]? = some t → isBox t = true → A i = A j → i = j
  len : sl.length = σ.length

section
variable {K : Fg} {F : Fc} {O : Pred} {A : Nat → Addr} {sl : Sl} {p p' : Pot} {σ : L2.St} {H H' : Hp}
theorem Rl.box (R : Rl K F O A sl p σ H) {i : Nat} {s : Slot} (e : sl[i]? = some s) (b : isBox s = true) : O (A i) ∧ F.H0 (A i) = none ∧ ∃ x, H (A i) = some x := by
  have q := R.slot i s e
  cases s with
  | own c => exact ⟨q.2.2.1, q.2.2.2, q.2.1.there⟩
  | iso c => exact ⟨q.2.2.1, q.2.2.2.1, by
      cases z : H (A i) with
      | none => exact absurd z q.2.2.2.2
      | some x => exact ⟨x, rfl⟩⟩
  | _ => cases b
theorem Rl.boxNe (R : Rl K F O A sl p σ H) {i : Nat} {s : Slot} (e : sl[i]? = some s) (b : isBox s = true) : A i ≠ F.ap := fun z => by
  have h := (R.box e b).2.1
  rw [z] at h
  exact R.cd _ R.apO h
theorem Rl.ap (R : Rl K F O A sl p σ H) : O F.ap := R.cur _ R.apO
theorem Rl.potNe (R : Rl K F O A sl p σ H) : H F.ap ≠ none := by rw [R.pot]; exact fun z => nomatch z
theorem Rl.boApO (R : Rl K F O A sl p σ H) : Ob O A sl F.ap := ⟨R.ap, fun _ _ e b z => R.boxNe e b z.symm⟩
theorem Rl.boOc (R : Rl K F O A sl p σ H) : ∀ b, F.Oc b → Ob O A sl b := fun b h => ⟨R.cur b h, fun i s e bx z => by
  have q := (R.box e bx).2.1
  rw [← z] at q
  exact R.cd b h q⟩
/-- data stay under an extension that may change the pot -/
theorem ex_map {O : Pred} (ha : O F.ap) (x : Ex F H H' p') : ∀ b y, ¬ O b → H b = some y → ¬ O b ∧ H' b = some y := fun b y n e =>
  ⟨n, x.keep b y (fun z => n (by rw [z]; exact ha)) e⟩
theorem Rl.exp (R : Rl K F O A sl p σ H) (x : Ex F H H' p') : Rl K F O A sl p' σ H' := by
  have st : ∀ b, b ≠ F.ap → H b ≠ none → H' b ≠ none := fun b n h => by
    cases z : H b with
    | none => exact absurd z h
    | some y => rw [x.keep b y n z]; exact fun q => nomatch q
  have all : ∀ b, H b ≠ none → H' b ≠ none := fun b h => by
    by_cases z : b = F.ap
    · rw [z, x.pot]; exact fun q => nomatch q
    · exact st b z h
  refine ⟨fun b h => all b (R.dom b h), R.cur, R.cd, R.apO, fun b y n e => x.keep b y n (R.ext b y n e), x.pot, fun i s e => ?_, R.inj, R.len⟩
  have q := R.slot i s e
  cases s with
  | un => exact True.intro
  | sh d => obtain ⟨v, e1, r⟩ := q; exact ⟨v, e1, r.map (ex_map R.ap x)⟩
  | own c =>
    have ne := R.boxNe e rfl
    obtain ⟨e1, r, o, z⟩ := q
    exact ⟨e1, r.map (ex_map R.ap x) (fun y hy => x.keep _ y ne hy), o, z⟩
  | iso c =>
    have ne := R.boxNe e rfl
    obtain ⟨e1, r, o, z, t⟩ := q
    refine ⟨e1, r.map fun b y n eb => ⟨n, x.keep b y (fun w => n ⟨by rw [w]; exact R.ap, fun w2 => ne (by rw [← w2, w])⟩) eb⟩, o, z, st _ ne t⟩
  | pot => exact q
/-- one more object is out of reach -/
theorem Rl.add (R : Rl K F O A sl p σ H) {q : Addr} (n : H q = none) (x : Ex F H H' p') (t : H' q ≠ none) : Rl K F (Oa O q) A sl p' σ H' := by
  have R' := R.exp x
  have m : ∀ b y, ¬ O b → H b = some y → ¬ Oa O q b ∧ H' b = some y := fun b y nb e => ⟨fun z => z.elim nb (fun w => by rw [w, n] at e; cases e), (ex_map R.ap x b y nb e).2⟩
  refine ⟨fun b h => h.elim (R'.dom b) (fun z => by rw [z]; exact t), fun b h => .inl (R.cur b h), R.cd, R.apO, R'.ext, R'.pot, fun i s e => ?_, R.inj, R.len⟩
  have w := R.slot i s e
  cases s with
  | un => exact True.intro
  | sh d => obtain ⟨v, e1, r⟩ := w; exact ⟨v, e1, r.map m⟩
  | own c =>
    have ne := R.boxNe e rfl
    obtain ⟨e1, r, o, z⟩ := w
    exact ⟨e1, r.map m (fun y hy => x.keep _ y ne hy), .inl o, z⟩
  | iso c =>
    have ne := R.boxNe e rfl
    obtain ⟨e1, r, o, z, t2⟩ := w
    have w' := R'.slot i _ e
    refine ⟨e1, r.map fun b y nb eb => ⟨fun hh => ?_, ?_⟩, .inl o, z, w'.2.2.2.2⟩
    · rcases hh with ⟨h1 | h1, h2⟩
      · exact nb ⟨h1, h2⟩
      · rw [h1, n] at eb; cases eb
    · exact x.keep b y (fun w => nb ⟨by rw [w]; exact R.ap, fun w2 => ne (by rw [← w2, w])⟩) eb
  | pot => exact w

/-- the value v at H', come from H, is val -/
def VR (K : Fg) (F : Fc) (O : Pred) (A : Nat → Addr) (sl : Sl) (H H' : Hp) (v : V) : Val → Prop
  | .sh d => RD K O H' d v
  | .bo d => RD K (Ob O A sl) H' d v
  | .fr c => ∃ q, v = .ref q ∧ H q = none ∧ RC K (Oa O q) H' c q
  | .ow i c => v = .ref (A i) ∧ sl[i]? = some (.own c)
  | .is c => ∃ q, v = .ref q ∧ H q = none ∧ H' q ≠ none ∧ RD K O H' c v
  | .pot => v = .ref F.ap
theorem Rl.not_of_none (R : Rl K F O A sl p σ H) {q : Addr} (n : H q = none) : ¬ O q := fun z => R.dom q z n
theorem Oa_map {O : Pred} {q : Addr} {H : Hp} : ∀ b x, ¬ Oa O q b → H b = some x → ¬ O b ∧ H b = some x := fun b x n e => ⟨fun z => n (.inl z), e⟩
theorem Ob_map {O : Pred} {H : Hp} : ∀ b x, ¬ O b → H b = some x → ¬ Ob O A sl b ∧ H b = some x := fun b x n e => ⟨fun z => n z.1, e⟩
/-- a value stays while other things are reckoned -/
theorem VR.exp {v : V} {val : Val} {H1 H2 : Hp} (R : Rl K F O A sl p σ H) (x : Ex F H1 H2 p') (h : VR K F O A sl H H1 v val) : VR K F O A sl H H2 v val := by
  cases val with
  | sh d => exact RD.map (ex_map R.ap x) h
  | bo d => exact RD.map (ex_map R.boApO x) h
  | fr c =>
    obtain ⟨q, e, n, r⟩ := h
    have nq : q ≠ F.ap := fun z => R.potNe (by rw [← z]; exact n)
    exact ⟨q, e, n, r.map (ex_map (O := Oa O q) (.inl R.ap) x) (fun y hy => x.keep _ y nq hy)⟩
  | ow i c => exact h
  | is c =>
    obtain ⟨q, e, n, t, r⟩ := h
    have nq : q ≠ F.ap := fun z => R.potNe (by rw [← z]; exact n)
    refine ⟨q, e, n, ?_, RD.map (ex_map R.ap x) r⟩
    cases w : H1 q with
    | none => exact absurd w t
    | some u => rw [x.keep _ _ nq w]; exact fun z => nomatch z
  | pot => exact h
/-- .. come from an earlier heap -/
theorem VR.back {v : V} {val : Val} {H1 H2 : Hp} (y : Ex F H H1 p) (h : VR K F O A sl H1 H2 v val) : VR K F O A sl H H2 v val := by
  have nn : ∀ q, H1 q = none → H q = none := fun q n => by
    cases z : H q with
    | none => rfl
    | some u =>
      by_cases w : q = F.ap
      · rw [w] at n; rw [y.pot] at n; cases n
      · rw [y.keep q u w z] at n; cases n
  cases val with
  | fr c => obtain ⟨q, e, n, r⟩ := h; exact ⟨q, e, nn q n, r⟩
  | is c => obtain ⟨q, e, n, t, r⟩ := h; exact ⟨q, e, nn q n, t, r⟩
  | _ => exact h

/-! ### data of a value -/
/-- the datum and whether it reaches no owned slot -/
def Val.dat : Val → Option (PyData × Bool)
  | .sh d => some (d, true)
  | .bo d => some (d, false)
  | .fr c => some (c, true)
  | .ow _ c => some (c, false)
  | .is c => some (c, true)
  | .pot => none
def Oq (O : Pred) (A : Nat → Addr) (sl : Sl) (c : Bool) : Pred := if c = true then O else Ob O A sl
theorem VR.dat {v : V} {val : Val} {d : PyData} {c : Bool} (R : Rl K F O A sl p σ H) (R' : Rl K F O A sl p' σ H') (h : VR K F O A sl H H' v val) (e : val.dat = some (d, c)) : RD K (Oq O A sl c) H' d v := by
  cases val with
  | sh d' => cases e; exact h
  | bo d' => cases e; exact h
  | fr c' =>
    cases e
    obtain ⟨q, rfl, n, r⟩ := h
    exact RC.rd (r.map Oa_map (fun _ z => z)) (R.not_of_none n)
  | ow i c' =>
    cases e
    obtain ⟨rfl, e⟩ := h
    have s := R'.slot i _ e
    exact RC.rd (s.2.1.map Ob_map (fun _ z => z)) (fun z => z.2 i _ e rfl rfl)
  | is c' =>
    cases e
    obtain ⟨q, _, _, _, r⟩ := h
    exact r
  | pot => cases e
theorem Oq_map {O : Pred} {A : Nat → Addr} {sl : Sl} {c : Bool} {H : Hp} : ∀ b x, ¬ Oq O A sl true b → H b = some x → ¬ Oq O A sl c b ∧ H b = some x := fun b x n e => by
  cases c with
  | true => exact ⟨n, e⟩
  | false => exact Ob_map b x n e
theorem Rl.apQ (R : Rl K F O A sl p σ H) (c : Bool) : Oq O A sl c F.ap := by
  cases c with
  | true => exact R.ap
  | false => exact R.boApO
/-- shared or borrowed -/
def shq (c : Bool) (d : PyData) : Val := if c = true then .sh d else .bo d
theorem VR.shq {v : V} {d : PyData} {c : Bool} (h : RD K (Oq O A sl c) H' d v) : VR K F O A sl H H' v (shq c d) := by
  cases c with
  | true => exact h
  | false => exact h
/-- a flat datum is always shared -/
def shf (c : Bool) (d : PyData) : Val := if flat d = true then .sh d else shq c d
theorem VR.shf {v : V} {d : PyData} {c : Bool} (h : RD K (Oq O A sl c) H' d v) : VR K F O A sl H H' v (shf c d) := by
  unfold Pu.shf
  split
  · rename_i f
    exact h.flat f
  · exact VR.shq h
/-- the items of a list or a tuple -/
def Val.items : Val → Option (List PyData × Bool)
  | .sh (.list ds) => some (ds, true)
  | .sh (.tuple ds) => some (ds, true)
  | .bo (.list ds) => some (ds, false)
  | .bo (.tuple ds) => some (ds, false)
  | .fr (.list ds) => some (ds, true)
  | .ow _ (.list ds) => some (ds, true)
  | .is (.list ds) => some (ds, true)
  | _ => none
/-- a list or tuple as it is read -/
def SqR (K : Fg) (H : Hp) (a : Addr) (vs : List V) : Prop := SqL K H a vs ∨ SqT K H a vs
theorem VR.items {v : V} {val : Val} {ds : List PyData} {c : Bool} (R : Rl K F O A sl p σ H) (R' : Rl K F O A sl p' σ H') (h : VR K F O A sl H H' v val) (e : val.items = some (ds, c)) :
    ∃ a vs, v = .ref a ∧ ((∃ c', val.dat = some (.list ds, c') ∧ H' a = some (.lst vs)) ∨ (∃ c', val.dat = some (.tuple ds, c') ∧ SqT K H' a vs)) ∧ RDs K (Oq O A sl c) H' ds vs := by
  have lst : ∀ {c1 : Bool}, RD K (Oq O A sl c1) H' (.list ds) v → ∃ a vs, v = .ref a ∧ H' a = some (.lst vs) ∧ RDs K (Oq O A sl c1) H' ds vs := fun r => by
    simp only [RD] at r
    obtain ⟨a, vs, e1, _, e2, e3⟩ := r
    exact ⟨a, vs, e1, e2, e3⟩
  have tup : ∀ {c1 : Bool}, RD K (Oq O A sl c1) H' (.tuple ds) v → ∃ a vs, v = .ref a ∧ SqT K H' a vs ∧ RDs K (Oq O A sl c1) H' ds vs := fun r => by
    simp only [RD] at r
    obtain ⟨a, vs, e1, e2, e3⟩ := r
    exact ⟨a, vs, e1, e2.elim (fun q => SqT.of q.2) .inr, e3⟩
  cases val with
  | sh d =>
    cases d with
    | list es => cases e; obtain ⟨a, vs, e1, e2, e3⟩ := lst (c1 := true) h; exact ⟨a, vs, e1, .inl ⟨_, rfl, e2⟩, e3⟩
    | tuple es => cases e; obtain ⟨a, vs, e1, e2, e3⟩ := tup (c1 := true) h; exact ⟨a, vs, e1, .inr ⟨_, rfl, e2⟩, e3⟩
    | _ => cases e
  | bo d =>
    cases d with
    | list es => cases e; obtain ⟨a, vs, e1, e2, e3⟩ := lst (c1 := false) h; exact ⟨a, vs, e1, .inl ⟨_, rfl, e2⟩, e3⟩
    | tuple es => cases e; obtain ⟨a, vs, e1, e2, e3⟩ := tup (c1 := false) h; exact ⟨a, vs, e1, .inr ⟨_, rfl, e2⟩, e3⟩
    | _ => cases e
  | fr d =>
    cases d with
    | list es =>
      cases e
      obtain ⟨a, vs, e1, e2, e3⟩ := lst (c1 := true) (VR.dat R R' h rfl)
      exact ⟨a, vs, e1, .inl ⟨_, rfl, e2⟩, e3⟩
    | _ => cases e
  | ow i d =>
    cases d with
    | list es =>
      cases e
      obtain ⟨rfl, e⟩ := h
      have s := R'.slot i _ e
      obtain ⟨vs, h1, h2⟩ := s.2.1
      exact ⟨_, vs, rfl, .inl ⟨_, rfl, h1⟩, h2⟩
    | _ => cases e
  | is d =>
    cases d with
    | list es =>
      cases e
      obtain ⟨a, vs, e1, e2, e3⟩ := lst (c1 := true) (VR.dat R R' h rfl)
      exact ⟨a, vs, e1, .inl ⟨_, rfl, e2⟩, e3⟩
    | _ => cases e
  | pot => cases e
end
end Pu
namespace Pu
open PySem PySem.Spec PyProof.Rows L2

theorem PEimp {X : Cx} {e : Expr} {t t' : TE} (h : PE X e t) (i : ∀ σ H Q, t' σ H Q → t σ H Q) : PE X e t' := ⟨fun pins s σ H Q I w => h.run pins s σ H Q I (i σ H Q w)⟩
theorem PTimp {X : Cx} {e : Expr} {t t' : TT} (h : PT X e t) (i : ∀ σ H Q, t' σ H Q → t σ H Q) : PT X e t' := ⟨fun pins s σ H Q I w => h.run pins s σ H Q I (i σ H Q w)⟩
theorem PAimp {X : Cx} {e : List Expr} {t t' : TA} (h : PA X e t) (i : ∀ σ H Q, t' σ H Q → t σ H Q) : PA X e t' := ⟨fun pos pins s σ H Q I w => h.run pos pins s σ H Q I (i σ H Q w)⟩
theorem PSimp {X : Cx} {e : Stmt} {t t' : TS} (h : PS X e t) (i : ∀ D σ H, t' D σ H → t D σ H) : PS X e t' := ⟨fun pins s σ H D I w => h.run pins s σ H D I (i D σ H w)⟩
theorem PSsimp {X : Cx} {e : List Stmt} {t t' : TS} (h : PSs X e t) (i : ∀ D σ H, t' D σ H → t D σ H) : PSs X e t' := ⟨fun pins s σ H D I w => h.run pins s σ H D I (i D σ H w)⟩

/-- an expression's reading by f -/
def tE (K : Fg) (f : Ev) : TE := fun σ H Q => ∃ F O A sl p val p', Rl K F O A sl p σ H ∧ f sl p = some (val, p') ∧ ∀ v H', Ex F H H' p' → VR K F O A sl H H' v val → Q v H'
def tT (K : Fg) (f : Ev) : TT := fun σ H Q => ∃ F O A sl p b p', Rl K F O A sl p σ H ∧ f sl p = some (.sh (.bool b), p') ∧ ∀ H', Ex F H H' p' → Q b H'
abbrev CE (X : Cx) (e : Expr) (f : Ev) : Prop := PE X e (tE X.K f)
abbrev CT (X : Cx) (e : Expr) (f : Ev) : Prop := PT X e (tT X.K f)

section
variable {K : Fg} {F : Fc} {O : Pred} {A : Nat → Addr} {sl : Sl} {p p' : Pot} {σ : L2.St} {H H' : Hp} {f g : Ev} {Q : VK}
theorem Ex.refl (R : Rl K F O A sl p σ H) : Ex F H H p := ⟨fun _ _ _ e => e, R.pot⟩
theorem Ex.new (R : Rl K F O A sl p σ H) {q : Addr} {o : HO} (n : H q = none) : Ex F H (upd H q o) p := by
  refine ⟨fun b x _ e => by rw [upd_ne (ne_of_none e n)]; exact e, ?_⟩
  rw [upd_ne (ne_of_none R.pot n)]
  exact R.pot
/-- where f gives val -/
theorem tE.get {F : Fc} {O : Pred} {A : Nat → Addr} {val : Val} (R : Rl K F O A sl p σ H) (e : f sl p = some (val, p')) (h : ∀ v H', Ex F H H' p' → VR K F O A sl H H' v val → Q v H') : tE K f σ H Q :=
  ⟨F, O, A, sl, p, val, p', R, e, h⟩
end

section
variable {X : Cx} {a b c e : Expr} {fa fb fc f : Ev} {pos : Pos}

/-! ### names, constants -/
def varE (i : Nat) (sl : Sl) (p : Pot) : Option (Val × Pot) := match sl[i]? with
  | some (.sh d) => some (.sh d, p)
  | some (.own c) => some (.ow i c, p)
  | some (.iso c) => some (.bo c, p)
  | some .pot => some (.pot, p)
  | _ => none
def constE (d : PyData) (_ : Sl) (p : Pot) : Option (Val × Pot) := some (.sh d, p)
theorem ce_var (i : Nat) {x : Str} {pos : Pos} (hN : X.N[i]? = some x := by rfl) (hv : Vis X.env.scope x := by first | exact Or.inl rfl | exact Or.inr (Or.inl rfl) | exact Or.inr (Or.inr rfl)) (hd : (x == ("__debug__" : Str)) = false := by decide)
    (hcd : (x == ("__classdict__" : Str)) = false := by decide) : CE X (.Name x pos) (varE i) := by
  refine PEimp (pe_var hN hv hd hcd) fun σ H Q h => ?_
  obtain ⟨F, O, A, sl, p, val, p', R, hf, q⟩ := h
  unfold varE at hf
  split at hf
  · rename_i d es
    cases hf
    obtain ⟨v, e1, r⟩ := R.slot i _ es
    exact ⟨v, e1, q v H (Ex.refl R) r⟩
  · rename_i c es
    cases hf
    obtain ⟨e1, r⟩ := R.slot i _ es
    exact ⟨_, e1, q _ H (Ex.refl R) ⟨rfl, es⟩⟩
  · rename_i c es
    cases hf
    obtain ⟨e1, r, _⟩ := R.slot i _ es
    exact ⟨_, e1, q _ H (Ex.refl R) (r.map fun b x n e => ⟨fun z => n ⟨z.1, z.2 i _ es rfl⟩, e⟩)⟩
  · rename_i es
    cases hf
    have e1 := R.slot i _ es
    exact ⟨_, e1, q _ H (Ex.refl R) rfl⟩
  · cases hf
theorem ce_of_const {d : PyData} {v : V} (h : PE X e (tC v)) (hv : ∀ O H, RD X.K O H d v) : CE X e (constE d) := by
  refine PEimp h fun σ H Q h => ?_
  obtain ⟨F, O, A, sl, p, val, p', R, hf, q⟩ := h
  cases hf
  exact q v H (Ex.refl R) (hv _ _)
theorem ce_int {i : Int} {j pos} : CE X (.Constant (.int i) j pos) (constE (.int i)) := ce_of_const pe_int fun _ _ => by simp only [RD]
theorem ce_bl {i : Bool} {j pos} : CE X (.Constant (.bool i) j pos) (constE (.bool i)) := ce_of_const pe_bl fun _ _ => by simp only [RD]
theorem ce_non {j pos} : CE X (.Constant .none j pos) (constE .none) := ce_of_const pe_non fun _ _ => by simp only [RD]
theorem ce_str {i : Str} {j pos} : CE X (.Constant (.str i) j pos) (constE (.str i)) := ce_of_const pe_str fun _ _ => by simp only [RD]
theorem ce_gint {x : Str} {i : Int} {t : Tok} (hm : X.mg x = some (.int i t)) (hg : Gl X x := by rfl) (hd : (x == ("__debug__" : Str)) = false := by decide) : CE X (.Name x pos) (constE (.int i)) :=
  ce_of_const (v := .int i) (pe_glob (v := .int i) hg hm ⟨_, rfl⟩ hd) fun _ _ => by simp only [RD]
theorem ce_gstr {x : Str} {i : Str} {t : Tok} (hm : X.mg x = some (.str i t)) (hg : Gl X x := by rfl) (hd : (x == ("__debug__" : Str)) = false := by decide) : CE X (.Name x pos) (constE (.str i)) :=
  ce_of_const (v := .str i) (pe_glob (v := .str i) hg hm ⟨_, rfl⟩ hd) fun _ _ => by simp only [RD]
/-- a constant of the top whose datum is known by the written part -/
theorem ce_gdat {x : Str} {d : PyData} {u : Value} {v : V} (hm : X.mg x = some u) (r : RelV v u) (hv : ∀ O H, RD X.K O H d v) (hg : Gl X x := by rfl) (hd : (x == ("__debug__" : Str)) = false := by decide) : CE X (.Name x pos) (constE d) :=
  ce_of_const (pe_glob hg hm r hd) hv

/-! ### two parts -/
/-- what an operation on values does -/
def OpS (K : Fg) (r : R2) (g : Val → Val → Option Val) : Prop :=
  ∀ (F : Fc) (O : Pred) (A : Nat → Addr) (sl : Sl) (p0 p : Pot) (σ : L2.St) (H0 H : Hp) (x y : V) (vx vy z : Val) (Q : VK), Rl K F O A sl p0 σ H0 → Ex F H0 H p → Rl K F O A sl p σ H → VR K F O A sl H0 H x vx → VR K F O A sl H0 H y vy → g vx vy = some z →
    (∀ v H', Ex F H H' p → VR K F O A sl H H' v z → Q v H') → r x y H Q
def binE (g : Val → Val → Option Val) (fa fb : Ev) (sl : Sl) (p : Pot) : Option (Val × Pot) := match fa sl p with
  | some (x, p1) => (match fb sl p1 with
    | some (y, p2) => (match g x y with
      | some z => some (z, p2)
      | none => none)
    | none => none)
  | none => none
theorem tE_bin {K : Fg} {r : R2} {g : Val → Val → Option Val} (hs : OpS K r g) : ∀ σ H Q, tE K (binE g fa fb) σ H Q → tOp r (tE K fa) (tE K fb) σ H Q := fun σ H Q h => by
  obtain ⟨F, O, A, sl, p, val, p', R, hf, q⟩ := h
  unfold binE at hf
  split at hf
  · rename_i x p1 e1
    split at hf
    · rename_i y p2 e2
      split at hf
      · rename_i z e3
        cases hf
        refine tE.get R e1 fun v H1 x1 r1 => ?_
        have R1 := R.exp x1
        refine tE.get R1 e2 fun u H2 x2 r2 => ?_
        have x12 := x1.trans x2
        exact hs F O A sl p p' σ H H2 v u x y val Q R x12 (R.exp x12) (r1.exp R x2) (r2.back x1) e3 fun w' H3 x3 r3 => q w' H3 (x12.trans x3) (r3.back x12)
      · cases hf
    · cases hf
  · cases hf
theorem ce_bin {op : Operator} {r : R2} {g : Val → Val → Option Val} (ho : OpR X (binaryOp op) r) (hs : OpS X.K r g) (ha : CE X a fa) (hb : CE X b fb) : CE X (.BinOp a op b pos) (binE g fa fb) :=
  PEimp (pe_op ho ha hb) (tE_bin hs)
theorem ce_cmp {op : CmpOp} {r : R2} {g : Val → Val → Option Val} (ho : OpR X (compareOp op) r) (hs : OpS X.K r g) (ha : CE X a fa) (hb : CE X b fb) (hm : behindInMarks op b = false) : CE X (.Compare a [op] [b] pos) (binE g fa fb) :=
  PEimp (pe_cmpR ho ha hb hm) (tE_bin hs)
/-- a reading of a value as a test's -/
theorem tT_of {K : Fg} : ∀ σ H Q, tT K f σ H Q → tTest (tE K f) σ H Q := fun σ H Q h => by
  obtain ⟨F, O, A, sl, p, b, p', R, hf, q⟩ := h
  refine tE.get R hf fun v H' x r => ⟨b, ?_, q H' x⟩
  simpa only [VR, RD] using r
theorem tE_mono {K : Fg} {f : Ev} {σ : L2.St} {H : Hp} {Q Q' : VK} (h : tE K f σ H Q) (m : ∀ v H', Q v H' → Q' v H') : tE K f σ H Q' := by
  obtain ⟨F, O, A, sl, p, val, p', R, hf, q⟩ := h
  exact ⟨F, O, A, sl, p, val, p', R, hf, fun v H' x r => m v H' (q v H' x r)⟩
theorem ct_cmp {op : CmpOp} {r : R2} {g : Val → Val → Option Val} (ho : OpR X (compareOp op) r) (hs : OpS X.K r g) (ha : CE X a fa) (hb : CE X b fb) (hm : behindInMarks op b = false) : CT X (.Compare a [op] [b] pos) (binE g fa fb) :=
  PTimp (pt_cmpR ho ha hb hm) fun σ H Q h => tE_bin hs σ H _ (tT_of σ H Q h)
theorem ct_val (h : CE X e f) (he : ∀ whole, isTrue e X.env whole = (do let v ← whole; standAt e.pos; holding [v] (truthy v)) := by intro _; rfl) : CT X e f :=
  PTimp (pt_val h he) fun σ H Q h => tT_of σ H Q h

/-! ### operations: the answers -/
/-- from data to a flat datum -/
def opF (k : PyData → PyData → Option PyData) : Val → Val → Option Val := fun x y => match x.dat, y.dat with
  | some (d, _), some (e, _) => (match k d e with
    | some z => if flat z = true then some (.sh z) else none
    | none => none)
  | _, _ => none
/-- a rule that asks two data and answers a flat datum -/
theorem ops_flat {K : Fg} {r : R2} {k : PyData → PyData → Option PyData}
    (h : ∀ (O1 O2 : Pred) (H : Hp) (x y : V) (d e z : PyData) (Q : VK), RD K O1 H d x → RD K O2 H e y → k d e = some z → (∀ v, (∀ O H, RD K O H z v) → Q v H) → r x y H Q) : OpS K r (opF k) := by
  intro F O A sl p0 p σ H0 H x y vx vy z Q R0 X0 R rx ry hg q
  unfold opF at hg
  split at hg
  · rename_i d cd e ce e1 e2
    split at hg
    · rename_i z' e3
      split at hg
      · rename_i fl
        cases hg
        refine h _ _ H x y d e z' Q (rx.dat R0 R e1) (ry.dat R0 R e2) e3 fun v hv => q v H (Ex.refl R) (hv _ _)
      · cases hg
    · cases hg
  · cases hg

def addK : PyData → PyData → Option PyData
  | .int i, .int j => some (.int (i + j))
  | .str x, .str y => if x.length + y.length ≤ sizeLine then some (.str (x ++ y)) else none
  | _, _ => none
def subK : PyData → PyData → Option PyData
  | .int i, .int j => some (.int (i - j))
  | _, _ => none
def mulK : PyData → PyData → Option PyData
  | .int i, .int j => if (-(2 ^ 64) < i ∧ i < 2 ^ 64) ∨ (-(2 ^ 64) < j ∧ j < 2 ^ 64) then some (.int (i * j)) else none
  | _, _ => none
def fdivK : PyData → PyData → Option PyData
  | .int i, .int j => if 0 < j ∧ j < 1073741824 then some (.int (i / j)) else none
  | _, _ => none
def modK : PyData → PyData → Option PyData
  | .int i, .int j => if 0 < j then some (.int (i % j)) else none
  | _, _ => none
def powK : PyData → PyData → Option PyData
  | .int i, .int j => if 0 ≤ j ∧ j ≤ 1000000 ∧ i.natAbs < 2 ^ 64 then some (.int (i ^ j.toNat)) else none
  | _, _ => none
def ltK : PyData → PyData → Option PyData
  | .int i, .int j => some (.bool (decide (i < j)))
  | _, _ => none
def leK : PyData → PyData → Option PyData
  | .int i, .int j => some (.bool (decide (i ≤ j)))
  | _, _ => none
def gtK : PyData → PyData → Option PyData
  | .int i, .int j => some (.bool (decide (j < i)))
  | _, _ => none
def geK : PyData → PyData → Option PyData
  | .int i, .int j => some (.bool (decide (j ≤ i)))
  | _, _ => none
def eqK : PyData → PyData → Option PyData
  | .str a, .str b => some (.bool (decide (a = b)))
  | d, e => if SeqAt.shaped d = true ∧ SeqAt.shaped e = true then some (.bool (d.eqv e)) else none
def neK : PyData → PyData → Option PyData
  | .str a, .str b => some (.bool (!decide (a = b)))
  | d, e => if SeqAt.shaped d = true ∧ SeqAt.shaped e = true then some (.bool (!d.eqv e)) else none
def rEq2 (K : Fg) : R2 := fun x y H Q => rEqD K x y H Q ∨ rEq x y H Q
def rNe2 (K : Fg) : R2 := fun x y H Q => rNeD K x y H Q ∨ rNe x y H Q
theorem opr_eq {X : Cx} (hu : X.A.units + 64 < cLine) : OpR X (compareOp .Eq) (rEq2 X.K) := (op_eqD hu).or op_eq
theorem opr_ne {X : Cx} (hu : X.A.units + 64 < cLine) : OpR X (compareOp .NotEq) (rNe2 X.K) := (op_neD hu).or op_ne
theorem strIff {a b : Str} : decide (V.str a = V.str b) = decide (a = b) := by
  rw [Bool.eq_iff_iff]; simp

section
variable {K : Fg}
theorem rdI {O : Pred} {H : Hp} {i : Int} {v : V} (h : RD K O H (.int i) v) : v = .int i := by simpa only [RD] using h
theorem rdS {O : Pred} {H : Hp} {i : Str} {v : V} (h : RD K O H (.str i) v) : v = .str i := by simpa only [RD] using h
theorem rdB {O : Pred} {H : Hp} {i : Bool} {v : V} (h : RD K O H (.bool i) v) : v = .bl i := by simpa only [RD] using h
theorem rdN {O : Pred} {H : Hp} {v : V} (h : RD K O H .none v) : v = .non := by simpa only [RD] using h
theorem toI {i : Int} : ∀ O H, RD K O H (.int i) (.int i) := fun _ _ => by simp only [RD]
theorem toS {i : Str} : ∀ O H, RD K O H (.str i) (.str i) := fun _ _ => by simp only [RD]
theorem toB {i : Bool} : ∀ O H, RD K O H (.bool i) (.bl i) := fun _ _ => by simp only [RD]
theorem toN : ∀ O H, RD K O H .none .non := fun _ _ => by simp only [RD]

theorem ops_I0 {k : PyData → PyData → Option PyData} {f : Int → Int → Int} (hk : ∀ d e z, k d e = some z → ∃ i j, d = .int i ∧ e = .int j ∧ z = .int (f i j)) : OpS K (rI0 fun i j => .int (f i j)) (opF k) :=
  ops_flat fun O1 O2 H x y d e z Q rx ry hz q => by
    obtain ⟨i, j, rfl, rfl, rfl⟩ := hk _ _ _ hz
    exact ⟨i, j, rdI rx, rdI ry, q _ toI⟩
theorem ops_B0 {k : PyData → PyData → Option PyData} {f : Int → Int → Bool} (hk : ∀ d e z, k d e = some z → ∃ i j, d = .int i ∧ e = .int j ∧ z = .bool (f i j)) : OpS K (rI0 fun i j => .bl (f i j)) (opF k) :=
  ops_flat fun O1 O2 H x y d e z Q rx ry hz q => by
    obtain ⟨i, j, rfl, rfl, rfl⟩ := hk _ _ _ hz
    exact ⟨i, j, rdI rx, rdI ry, q _ toB⟩
theorem ops_IC {C : Int → Int → Prop} {k : PyData → PyData → Option PyData} {f : Int → Int → Int} (hk : ∀ d e z, k d e = some z → ∃ i j, d = .int i ∧ e = .int j ∧ C i j ∧ z = .int (f i j)) : OpS K (rI C fun i j => .int (f i j)) (opF k) :=
  ops_flat fun O1 O2 H x y d e z Q rx ry hz q => by
    obtain ⟨i, j, rfl, rfl, c, rfl⟩ := hk _ _ _ hz
    exact ⟨i, j, rdI rx, rdI ry, c, q _ toI⟩
theorem ops_sub : OpS K (rI0 fun i j => .int (i - j)) (opF subK) := ops_I0 fun d e z h => by
  unfold subK at h; split at h
  · cases h; exact ⟨_, _, rfl, rfl, rfl⟩
  · cases h
theorem ops_mul : OpS K (rI CMul fun i j => .int (i * j)) (opF mulK) := ops_IC fun d e z h => by
  unfold mulK at h; split at h
  · split at h
    · rename_i c; cases h; exact ⟨_, _, rfl, rfl, c, rfl⟩
    · cases h
  · cases h
theorem ops_fdiv : OpS K (rI CDiv fun i j => .int (i / j)) (opF fdivK) := ops_IC fun d e z h => by
  unfold fdivK at h; split at h
  · split at h
    · rename_i c; cases h; exact ⟨_, _, rfl, rfl, c, rfl⟩
    · cases h
  · cases h
theorem ops_mod : OpS K (rI (fun _ j => 0 < j) fun i j => .int (i % j)) (opF modK) := ops_IC fun d e z h => by
  unfold modK at h; split at h
  · split at h
    · rename_i c; cases h; exact ⟨_, _, rfl, rfl, c, rfl⟩
    · cases h
  · cases h
theorem ops_pow : OpS K (rI CPow fun i j => .int (i ^ j.toNat)) (opF powK) := ops_IC fun d e z h => by
  unfold powK at h; split at h
  · split at h
    · rename_i c; cases h; exact ⟨_, _, rfl, rfl, c, rfl⟩
    · cases h
  · cases h
theorem ops_lt : OpS K (rI0 fun i j => .bl (decide (i < j))) (opF ltK) := ops_B0 fun d e z h => by
  unfold ltK at h; split at h
  · cases h; exact ⟨_, _, rfl, rfl, rfl⟩
  · cases h
theorem ops_le : OpS K (rI0 fun i j => .bl (decide (i ≤ j))) (opF leK) := ops_B0 fun d e z h => by
  unfold leK at h; split at h
  · cases h; exact ⟨_, _, rfl, rfl, rfl⟩
  · cases h
theorem ops_gt : OpS K (rI0 fun i j => .bl (decide (j < i))) (opF gtK) := ops_B0 fun d e z h => by
  unfold gtK at h; split at h
  · cases h; exact ⟨_, _, rfl, rfl, rfl⟩
  · cases h
theorem ops_ge : OpS K (rI0 fun i j => .bl (decide (j ≤ i))) (opF geK) := ops_B0 fun d e z h => by
  unfold geK at h; split at h
  · cases h; exact ⟨_, _, rfl, rfl, rfl⟩
  · cases h
theorem noDict_of_shaped {d : PyData} (h : SeqAt.shaped d = true) : d.hasDict = false := by
  unfold SeqAt.shaped at h
  simp only [Bool.and_eq_true] at h
  exact PyData.hasDict_of_canLay d h.1
theorem ops_eq : OpS K (rEq2 K) (opF eqK) := ops_flat fun O1 O2 H x y d e z Q rx ry hz q => by
  unfold eqK at hz
  split at hz
  · cases hz
    exact .inr (by rw [rdS rx, rdS ry]; exact ⟨rfl, by rw [strIff]; exact q _ toB⟩)
  · split at hz
    · rename_i c
      cases hz
      exact .inl ⟨d, e, rx.dp (noDict_of_shaped c.1), ry.dp (noDict_of_shaped c.2), c.1, c.2, q _ toB⟩
    · cases hz
theorem ops_ne : OpS K (rNe2 K) (opF neK) := ops_flat fun O1 O2 H x y d e z Q rx ry hz q => by
  unfold neK at hz
  split at hz
  · cases hz
    exact .inr (by rw [rdS rx, rdS ry]; exact ⟨rfl, by rw [strIff]; exact q _ toB⟩)
  · split at hz
    · rename_i c
      cases hz
      exact .inl ⟨d, e, rx.dp (noDict_of_shaped c.1), ry.dp (noDict_of_shaped c.2), c.1, c.2, q _ toB⟩
    · cases hz
end
end
end Pu
namespace Pu
open PySem PySem.Spec PyProof.Rows L2

section
variable {K : Fg} {F : Fc} {O : Pred} {A : Nat → Addr} {sl : Sl} {p p' : Pot} {σ : L2.St} {H H' : Hp}

/-- a new list of items -/
def newL (c : Bool) (ds : List PyData) : Val := if c = true then .fr (.list ds) else .bo (.list ds)
def newT (c : Bool) (ds : List PyData) : Val := shq c (.tuple ds)
theorem VR.newL {ds : List PyData} {vs : List V} {c : Bool} (R : Rl K F O A sl p σ H) {q : Addr} (n : H q = none) (r : RDs K (Oq O A sl c) H ds vs) : VR K F O A sl H (upd H q (.lst vs)) (.ref q) (newL c ds) := by
  have m : ∀ (O1 : Pred), ∀ b x, ¬ O1 b → H b = some x → ¬ Oa O1 q b ∧ upd H q (.lst vs) b = some x := fun O1 b x nb e =>
    have ne := ne_of_none e n
    ⟨fun z => z.elim nb ne, by rw [upd_ne ne]; exact e⟩
  cases c with
  | true => exact ⟨q, rfl, n, vs, upd_same, r.map (m _)⟩
  | false =>
    refine RC.rd (c := .list ds) ⟨vs, upd_same, r.map fun b x nb e => ⟨nb, ((m _) b x nb e).2⟩⟩ fun z => R.not_of_none n z.1
theorem VR.newT {ds : List PyData} {vs : List V} {c : Bool} (R : Rl K F O A sl p σ H) {q : Addr} (n : H q = none) (r : RDs K (Oq O A sl c) H ds vs) : VR K F O A sl H (upd H q (.tup vs)) (.ref q) (newT c ds) := by
  have nq : ¬ Oq O A sl c q := fun z => R.not_of_none n (by
    cases c with
    | true => exact z
    | false => exact z.1)
  refine VR.shq ?_
  simp only [RD]
  exact ⟨q, vs, rfl, .inl ⟨nq, upd_same⟩, r.map fun b x nb e => ⟨nb, by rw [upd_ne (ne_of_none e n)]; exact e⟩⟩
theorem RDs.both {c c' : Bool} {ds : List PyData} {vs : List V} (r : RDs K (Oq O A sl c) H ds vs) : RDs K (Oq O A sl (c && c')) H ds vs := by
  cases c with
  | true => exact r.map Oq_map
  | false => exact r
theorem RDs.both' {c c' : Bool} {ds : List PyData} {vs : List V} (r : RDs K (Oq O A sl c') H ds vs) : RDs K (Oq O A sl (c && c')) H ds vs := by
  cases c with
  | true => exact r
  | false => cases c' with
    | true => exact r.map (Oq_map (c := false))
    | false => exact r
theorem RD.both {c c' : Bool} {ds : PyData} {vs : V} (r : RD K (Oq O A sl c) H ds vs) : RD K (Oq O A sl (c && c')) H ds vs := by
  cases c with
  | true => exact r.map Oq_map
  | false => exact r
theorem RD.both' {c c' : Bool} {ds : PyData} {vs : V} (r : RD K (Oq O A sl c') H ds vs) : RD K (Oq O A sl (c && c')) H ds vs := by
  cases c with
  | true => exact r
  | false => cases c' with
    | true => exact r.map (Oq_map (c := false))
    | false => exact r
/-- the items that a tuple's datum tells -/
theorem VR.tupItems {v : V} {val : Val} {ds : List PyData} {c : Bool} (R : Rl K F O A sl p σ H) (R' : Rl K F O A sl p' σ H') (h : VR K F O A sl H H' v val) (e : val.dat = some (.tuple ds, c)) :
    ∃ a vs, v = .ref a ∧ SqT K H' a vs ∧ RDs K (Oq O A sl c) H' ds vs := by
  have r := h.dat R R' e
  simp only [RD] at r
  obtain ⟨a, vs, e1, e2, e3⟩ := r
  exact ⟨a, vs, e1, e2.elim (fun q => SqT.of q.2) .inr, e3⟩

/-! ### + -/
def addV (x y : Val) : Option Val := match x.dat, y.dat with
  | some (.tuple ds, c), some (.tuple es, c') => if ds.length + es.length ≤ sizeLine then some (shq (c && c') (.tuple (ds ++ es))) else none
  | some (.list _, _), some (.list _, _) => (match x.items, y.items with
    | some (ds, c), some (es, c') => if ds.length + es.length ≤ sizeLine then some (newL (c && c') (ds ++ es)) else none
    | _, _ => none)
  | _, _ => opF addK x y
def rAdd4 (K : Fg) : R2 := fun x y H Q => ((((∃ i j, x = .int i ∧ y = .int j ∧ Q (.int (i + j)) H) ∨ (∃ i j, x = .str i ∧ y = .str j ∧ i.length + j.length ≤ sizeLine ∧ Q (.str (i ++ j)) H)) ∨ rCatA K x y H Q) ∨ rCat x y H Q)
theorem opr_add {X : Cx} : OpR X (binaryOp .Add) (rAdd4 X.K) := OpR.or (OpR.or (OpR.or op_add op_add_str) op_catA) op_cat
theorem ops_addF : OpS K (fun x y H Q => (∃ i j, x = .int i ∧ y = .int j ∧ Q (.int (i + j)) H) ∨ (∃ i j, x = .str i ∧ y = .str j ∧ i.length + j.length ≤ sizeLine ∧ Q (.str (i ++ j)) H)) (opF addK) :=
  ops_flat fun O1 O2 H x y d e z Q rx ry hz q => by
    unfold addK at hz
    split at hz
    · cases hz; exact .inl ⟨_, _, rdI rx, rdI ry, q _ toI⟩
    · split at hz
      · rename_i c; cases hz; exact .inr ⟨_, _, rdS rx, rdS ry, c, q _ toS⟩
      · cases hz
    · cases hz
theorem ops_add : OpS K (rAdd4 K) addV := by
  intro F O A sl p0 p σ H0 H x y vx vy z Q R0 X0 R rx ry hg q
  unfold addV at hg
  split at hg
  · rename_i ds c es c' e1 e2
    split at hg
    · rename_i hz
      cases hg
      obtain ⟨a, xs, rfl, ta, ra⟩ := rx.tupItems R0 R e1
      obtain ⟨b, ys, rfl, tb, rb⟩ := ry.tupItems R0 R e2
      have la := ra.length
      have lb := rb.length
      refine .inl (.inr ⟨a, b, xs, ys, rfl, rfl, ta, tb, by omega, fun ex => ?_, fun _ ey => ?_, fun _ _ q' hq => ?_⟩)
      · subst ex
        have : ds = [] := List.eq_nil_of_length_eq_zero (by simpa using la.symm)
        subst this
        exact q _ H (Ex.refl R) (VR.shq (RD.both' (ry.dat R0 R e2)))
      · subst ey
        have : es = [] := List.eq_nil_of_length_eq_zero (by simpa using lb.symm)
        subst this
        rw [List.append_nil] at q
        exact q _ H (Ex.refl R) (VR.shq (RD.both (rx.dat R0 R e1)))
      · exact q _ _ (Ex.new R hq) (VR.newT R hq (RDs.append (ra.both (c' := c')) (rb.both' (c := c))))
    · cases hg
  · split at hg
    · rename_i es1 c es2 c' i1 i2
      split at hg
      · rename_i hz
        cases hg
        obtain ⟨a, xs, rfl, ta, ra⟩ := rx.items R0 R i1
        obtain ⟨b, ys, rfl, tb, rb⟩ := ry.items R0 R i2
        have la := ra.length
        have lb := rb.length
        rcases ta with ⟨_, e3, ha⟩ | ⟨_, e3, _⟩
        · rcases tb with ⟨_, e4, hb⟩ | ⟨_, e4, _⟩
          · exact .inr ⟨a, b, xs, ys, rfl, rfl, ha, hb, by omega, fun q' hq => q _ _ (Ex.new R hq) (VR.newL R hq (RDs.append (ra.both (c' := c')) (rb.both' (c := c))))⟩
          · simp_all
        · simp_all
      · cases hg
    · cases hg
  · exact .inl (.inl (ops_addF F O A sl p0 p σ H0 H x y vx vy z Q R0 X0 R rx ry hg q))

/-! ### str * int, list * int -/
def repK : PyData → PyData → Option PyData
  | .str x, .int k => if -(2 ^ 63) ≤ k ∧ k < 2 ^ 63 ∧ x.length * k.toNat ≤ sizeLine then some (.str ⟨(List.replicate k.toNat x.cps.toList).flatten.toArray⟩) else none
  | _, _ => none

/-! ### in, not in -/
/-- a sign or a text within a text -/
def inK : PyData → PyData → Option PyData
  | .str x, .str y => some (.bool (!(Builtin.Str.occurrences y x 0 y.length 1).isEmpty))
  | .str _, _ => none
  | _, _ => none
/-- a datum within a list of data, or a tuple of flat ones -/
def inD (x y : Val) : Option Bool := match x.dat, y.dat with
  | some (.str a, _), some (.str b, _) => some (!(Builtin.Str.occurrences b a 0 b.length 1).isEmpty)
  | some (d, _), some (.list ds, _) => if SeqAt.shaped d = true ∧ SeqAt.shaped (.list ds) = true then some (ds.any fun z => PyData.eqv z d) else none
  | some (d, _), some (.tuple ds, _) => if flat d = true ∧ ds.all flat = true then some (ds.any fun z => PyData.eqv z d) else none
  | _, _ => none
def inV' (x y : Val) : Option Val := (inD x y).map fun b => .sh (.bool b)
def ninV (x y : Val) : Option Val := (inD x y).map fun b => .sh (.bool (!b))
theorem flatV_of {O1 : Pred} {d : PyData} {v : V} (f : flat d = true) (r : RD K O1 H d v) : flatV v = true := by
  cases d with
  | none => rw [rdN r]; rfl
  | bool _ => rw [rdB r]; rfl
  | int _ => rw [rdI r]; rfl
  | str _ => rw [rdS r]; rfl
  | _ => cases f
theorem eqV_of {O1 O2 : Pred} {d e : PyData} {v u : V} (f : flat d = true) (g : flat e = true) (r : RD K O1 H d v) (s : RD K O2 H e u) : eqV v u = PyData.eqv d e := by
  cases d with
  | none => rw [rdN r]; cases e with
    | none => rw [rdN s]; rfl
    | bool _ => rw [rdB s]; rfl
    | int _ => rw [rdI s]; rfl
    | str _ => rw [rdS s]; rfl
    | _ => cases g
  | bool b => rw [rdB r]; cases e with
    | none => rw [rdN s]; rfl
    | bool _ => rw [rdB s]; rfl
    | int j => rw [rdI s]; cases b <;> rfl
    | str _ => rw [rdS s]; rfl
    | _ => cases g
  | int i => rw [rdI r]; cases e with
    | none => rw [rdN s]; rfl
    | bool b => rw [rdB s]; cases b <;> rfl
    | int _ => rw [rdI s]; rfl
    | str _ => rw [rdS s]; rfl
    | _ => cases g
  | str _ => rw [rdS r]; cases e with
    | none => rw [rdN s]; rfl
    | bool _ => rw [rdB s]; rfl
    | int _ => rw [rdI s]; rfl
    | str _ => rw [rdS s]; rfl
    | _ => cases g
  | _ => cases f
theorem flats_of {O1 : Pred} : ∀ {ds : List PyData} {vs : List V}, ds.all flat = true → RDs K O1 H ds vs → vs.all flatV = true
  | [], _, _, r => by simp only [RDs] at r; subst r; rfl
  | d :: ds, _, f, r => by
    simp only [RDs] at r
    obtain ⟨v, t, rfl, h1, h2⟩ := r
    simp only [List.all_cons, Bool.and_eq_true] at f ⊢
    exact ⟨flatV_of f.1 h1, flats_of f.2 h2⟩
theorem inV_of {O1 O2 : Pred} {d : PyData} {x : V} (f : flat d = true) (r : RD K O2 H d x) : ∀ {ds : List PyData} {vs : List V}, ds.all flat = true → RDs K O1 H ds vs → inV x vs = ds.any fun z => PyData.eqv z d
  | [], _, _, r => by simp only [RDs] at r; subst r; rfl
  | e :: ds, _, g, rs => by
    simp only [RDs] at rs
    obtain ⟨v, t, rfl, h1, h2⟩ := rs
    simp only [List.all_cons, Bool.and_eq_true] at g
    have ih := inV_of (x := x) f r g.2 h2
    unfold inV at ih ⊢
    rw [List.any_cons, List.any_cons, ih, eqV_of g.1 f h1 r]
def rIn3 (K : Fg) (neg : Bool) : R2 := fun x y H Q => (((∃ i j, x = .str i ∧ y = .str j ∧ Q (.bl (if neg = true then !(!(Builtin.Str.occurrences j i 0 j.length 1).isEmpty) else !(Builtin.Str.occurrences j i 0 j.length 1).isEmpty)) H) ∨ rIn K neg x y H Q) ∨
  (∃ d ds, Dp K H x d ∧ Dp K H y (.list ds) ∧ SeqAt.shaped d = true ∧ SeqAt.shaped (.list ds) = true ∧ Q (.bl (if neg = true then !ds.any fun z => PyData.eqv z d else ds.any fun z => PyData.eqv z d)) H))
theorem opr_in {X : Cx} (hu : X.A.units + 65 < cLine) : OpR X (compareOp .In) (rIn3 X.K false) := OpR.or (OpR.or op_in_str op_in_seq) (op_inD hu)
theorem opr_nin {X : Cx} (hu : X.A.units + 65 < cLine) : OpR X (compareOp .NotIn) (rIn3 X.K true) := OpR.or (OpR.or op_notin_str op_notIn_seq) (op_notInD hu)
theorem ops_in0 {neg : Bool} : OpS K (rIn3 K neg) (fun x y => (inD x y).map fun b => .sh (.bool (if neg = true then !b else b))) := by
  intro F O A sl p0 p σ H0 H x y vx vy z Q R0 X0 R rx ry hg q
  have fin : ∀ b : Bool, z = .sh (.bool b) → Q (.bl b) H := fun b e => by
    subst e
    exact q (.bl b) H (Ex.refl R) (show RD K O H (.bool b) (.bl b) from toB O H)
  obtain ⟨b, hb, e⟩ := Option.map_eq_some_iff.mp hg
  have fin := fin _ e.symm
  unfold inD at hb
  split at hb
  · rename_i a _ b' _ e1 e2
    cases hb
    exact .inl (.inl ⟨a, b', rdS (rx.dat R0 R e1), rdS (ry.dat R0 R e2), fin⟩)
  · rename_i d cd ds cs e1 e2
    split at hb
    · rename_i c
      cases hb
      exact .inr ⟨d, ds, (rx.dat R0 R e1).dp (noDict_of_shaped c.1), (ry.dat R0 R e2).dp (noDict_of_shaped c.2), c.1, c.2, fin⟩
    · cases hb
  · rename_i d cd ds cs e1 e2
    split at hb
    · rename_i c
      cases hb
      obtain ⟨a, vs, rfl, t, r⟩ := ry.tupItems R0 R e2
      have rr := rx.dat R0 R e1
      refine .inl (.inr ⟨a, vs, rfl, .inr t, flatV_of c.1 rr, flats_of c.2 r, ?_⟩)
      rw [inV_of c.1 rr c.2 r]
      exact fin
    · cases hb
  · cases hb
theorem ops_in : OpS K (rIn3 K false) inV' := ops_in0 (neg := false)
theorem ops_nin : OpS K (rIn3 K true) ninV := ops_in0 (neg := true)
/-! ### is None -/
def isNo : PyData → Bool
  | .none => true
  | _ => false
def isnK (d e : PyData) : Option PyData := if isNo e = true then some (.bool (isNo d)) else none
def notnK (d e : PyData) : Option PyData := if isNo e = true then some (.bool (!isNo d)) else none
theorem non_iff {O1 : Pred} {d : PyData} {v : V} (r : RD K O1 H d v) : decide (v = .non) = isNo d := by
  cases d with
  | none => rw [rdN r]; rfl
  | bool _ => rw [rdB r]; rfl
  | int _ => rw [rdI r]; rfl
  | str _ => rw [rdS r]; rfl
  | list _ => simp only [RD] at r; obtain ⟨a, vs, rfl, _⟩ := r; rfl
  | tuple _ => simp only [RD] at r; obtain ⟨a, vs, rfl, _⟩ := r; rfl
  | dict _ => simp only [RD] at r; obtain ⟨a, rfl, _⟩ := r; rfl
theorem isNo_eq {e : PyData} (h : isNo e = true) : e = .none := by
  cases e <;> first | rfl | cases h
theorem ops_isn : OpS K (fun x y H Q => y = .non ∧ Q (.bl (decide (x = .non))) H) (opF isnK) := ops_flat fun O1 O2 H x y d e z Q rx ry hz q => by
  unfold isnK at hz
  split at hz
  · rename_i h
    cases hz
    have := isNo_eq h
    subst this
    refine ⟨rdN ry, ?_⟩
    rw [non_iff rx]
    exact q _ toB
  · cases hz
theorem ops_notn : OpS K (fun x y H Q => y = .non ∧ Q (.bl (!decide (x = .non))) H) (opF notnK) := ops_flat fun O1 O2 H x y d e z Q rx ry hz q => by
  unfold notnK at hz
  split at hz
  · rename_i h
    cases hz
    have := isNo_eq h
    subst this
    refine ⟨rdN ry, ?_⟩
    rw [non_iff rx]
    exact q _ toB
  · cases hz
end
end Pu
set_option maxHeartbeats 4000000
/-! tuple * int and str * int at the edges. -/
namespace Pu
open PySem PySem.Spec PyProof.Rows L2

/-- t * k where nothing is copied: k = 1, or t empty -/
theorem tuple_mul_same (l : Addr) (items : Array Value) (n : Nat) (dd : Option Addr) (sl : Array (Option Value)) (x : Int) (u : Tok) (c0 : (decide (x < -(2 ^ 63)) || decide (x ≥ 2 ^ 63)) = false) (c1 : (items.isEmpty || x == 1) = true) :
    Meets (Builtin.«tuple.__mul__» ⟨[.ref l, .int x u], []⟩) (fun _ R s => s.heap.get? l = some { cls := .type "tuple", dict := dd, data := .seq items n, slots := sl } ∧ R (.ok (.ret (Value.ref l))) s) :=
  .of_wp fun prog w A R s h => by
    obtain ⟨hp, g, d, tk, os⟩ := s
    obtain ⟨hl, h⟩ := h
    have f1 := AutoSeq1.idx_int
    wp_walk using wpAny_loadPart' hl
    repeat (first
      | (refine wpAny_ite_false (decide_eq_false (by rw [c0]; exact Bool.false_ne_true)) ?_; wp_walk using wpAny_loadPart' hl)
      | (refine wpAny_ite_true (decide_eq_true (by rw [c1])) ?_; wp_walk using wpAny_loadPart' hl))
    exact ⟨_, rfl, h⟩
theorem tuple_mul_none (l : Addr) (items : Array Value) (n : Nat) (dd : Option Addr) (sl : Array (Option Value)) (x : Int) (u : Tok) (c0 : (decide (x < -(2 ^ 63)) || decide (x ≥ 2 ^ 63)) = false) (c1 : (items.isEmpty || x == 1) = false) (c2 : (decide (x ≤ 0) || items.isEmpty) = true) :
    Meets (Builtin.«tuple.__mul__» ⟨[.ref l, .int x u], []⟩) (fun _ R s => s.heap.get? l = some { cls := .type "tuple", dict := dd, data := .seq items n, slots := sl } ∧
      R (.ok (.ret (Value.ref s.heap.objs.size))) { s with heap := s.heap.push { cls := Value.type "tuple", data := Data.seq #[] }, toks := s.toks }) :=
  .of_wp fun prog w A R s h => by
    obtain ⟨hp, g, d, tk, os⟩ := s
    obtain ⟨hl, h⟩ := h
    have f1 := AutoSeq1.idx_int
    have hz : (#[] : Array Value).size ≤ sizeLine := Nat.zero_le _
    wp_walk using wpAny_loadPart' hl
    repeat (first
      | (refine wpAny_ite_false (decide_eq_false (by rw [c0]; exact Bool.false_ne_true)) ?_; wp_walk using wpAny_loadPart' hl)
      | (refine wpAny_ite_false (decide_eq_false (by rw [c1]; exact Bool.false_ne_true)) ?_; wp_walk using wpAny_loadPart' hl)
      | (refine wpAny_ite_true (decide_eq_true (by rw [c2])) ?_; wp_walk using wpAny_loadPart' hl)
      | (refine wpAny_ite_false (decide_eq_false (Nat.not_lt.mpr hz)) ?_; wp_walk using wpAny_loadPart' hl))
    exact ⟨_, rfl, h⟩
/-- t * k, for every k that is not too great -/
def rMulT (K : Fg) : R2 := fun x y H Q => ∃ l k xs, x = .ref l ∧ y = .int k ∧ SqT K H l xs ∧ k ≤ 1000 ∧ -1000 ≤ k ∧ xs.length ≤ 1000 ∧
  (xs = [] ∨ k = 1 → Q (.ref l) H) ∧ (xs ≠ [] → k ≤ 0 → ∀ p, H p = none → Q (.ref p) (upd H p (.tup []))) ∧ (xs ≠ [] → 2 ≤ k → ∀ p, H p = none → Q (.ref p) (upd H p (.tup (List.replicate k.toNat xs).flatten)))
section
variable {X : Cx}
theorem op_mulT : OpR X (binaryOp .Mult) (rMulT X.K) := by
  intro pins s σ H x y v u Q I rx ry h
  obtain ⟨l, k, xs, rfl, rfl, hT, h1, h0, hz, q1, q2, q3⟩ := h
  by_cases hb : xs ≠ [] ∧ 2 ≤ k
  · exact op_repT pins s σ H _ _ v u Q I rx ry ⟨l, k, xs, rfl, rfl, hT, hb.1, hb.2, h1, hz, q3 hb.1 hb.2⟩
  cases rx
  obtain ⟨t, rfl⟩ := ry
  obtain ⟨its, r, ⟨⟨cls, dd, data, sl⟩, ho, hc, n, hd⟩, hs⟩ := I.tuple hT
  simp only at hc hd
  subst hc hd
  have tyl : s.TypeIs (.ref l) "tuple" := ⟨_, ho, rfl⟩
  have hle : its.length = xs.length := r.length.symm
  have c0 : (decide (k < -(2 ^ 63)) || decide (k ≥ 2 ^ 63)) = false := by
    rw [decide_eq_false (by omega), decide_eq_false (by omega)]; rfl
  have hi : its.toArray.isEmpty = xs.isEmpty := by
    cases its with
    | nil => cases xs with
      | nil => rfl
      | cons a b => simp at hle
    | cons a b => cases xs with
      | nil => simp at hle
      | cons a b => rfl
  by_cases hx : xs = [] ∨ k = 1
  · have c1 : (its.toArray.isEmpty || k == 1) = true := by
      rw [hi]
      rcases hx with e | e
      · rw [e]; rfl
      · rw [e]; simp
    have same := tuple_mul_same l its.toArray n dd sl k t c0 c1
    have step2 := call_meets F.slot_tuple_mul tyl F.entry_tuple_mul (F.args_tuple_mul_2 _ _) same
      (prog := X.prog) (w := X.w) (A := X.A) (E := X.xe) (s := s) (Q := EP X pins σ Q) ⟨ho, ⟨.ref l, H, I, rfl, q1 hx⟩⟩
    have turn := int_rmul_tuple k t l its.toArray n dd sl
    exact wpAny_binaryOp_repeat_ref (T := "tuple") (U := "int") (by decide) ⟨_, ho, rfl⟩ (fun z => typeIs_int z k t) noFill_tuple_mul
      F.fills_int_mul F.slot_int_rmul repeat_tuple F.slot_int_index.lookup
      (call_meets F.slot_int_rmul (typeIs_int s k t) F.entry_int_rmul (F.args_int_rmul_2 _ _) turn ⟨ho, rfl, ⟨_, ho, rfl⟩, step2⟩)
  · have hx1 : xs ≠ [] := fun e => hx (.inl e)
    have hk1 : k ≠ 1 := fun e => hx (.inr e)
    have hk0 : k ≤ 0 := by
      have : ¬ 2 ≤ k := fun e => hb ⟨hx1, e⟩
      omega
    have e1 : its.toArray.isEmpty = false := by
      rw [hi]
      cases xs with
      | nil => exact absurd rfl hx1
      | cons a b => rfl
    have c1 : (its.toArray.isEmpty || k == 1) = false := by
      rw [e1, Bool.false_or]
      exact beq_eq_false_iff_ne.mpr hk1
    have c2 : (decide (k ≤ 0) || its.toArray.isEmpty) = true := by
      rw [decide_eq_true hk0, Bool.true_or]
    have none := tuple_mul_none l its.toArray n dd sl k t c0 c1 c2
    have new : EP X pins σ Q (Value.ref s.heap.objs.size) { s with heap := s.heap.push { cls := Value.type "tuple", data := Data.seq #[] }, toks := s.toks } := by
      refine ⟨.ref s.heap.objs.size, _, I.laid (t' := s.toks) (o := .tup []) (fun b ob e => Heap.get?_push_of_some _ e) (Nat.le_refl _) ?_, rfl, q2 hx1 hk0 _ (I.hok.fresh (Nat.le_refl _))⟩
      exact ⟨Nat.zero_le _, [], .nil, IsTup.new _ _⟩
    have step2 := call_meets F.slot_tuple_mul tyl F.entry_tuple_mul (F.args_tuple_mul_2 _ _) none
      (prog := X.prog) (w := X.w) (A := X.A) (E := X.xe) (s := s) (Q := EP X pins σ Q) ⟨ho, new⟩
    have turn := int_rmul_tuple k t l its.toArray n dd sl
    exact wpAny_binaryOp_repeat_ref (T := "tuple") (U := "int") (by decide) ⟨_, ho, rfl⟩ (fun z => typeIs_int z k t) noFill_tuple_mul
      F.fills_int_mul F.slot_int_rmul repeat_tuple F.slot_int_index.lookup
      (call_meets F.slot_int_rmul (typeIs_int s k t) F.entry_int_rmul (F.args_int_rmul_2 _ _) turn ⟨ho, rfl, ⟨_, ho, rfl⟩, step2⟩)
end
end Pu
namespace Pu
open PySem PySem.Spec PyProof.Rows L2

def repS (z : Str) (k : Int) : Str := ⟨(List.replicate k.toNat z.cps.toList).flatten.toArray⟩
theorem fold_app (a : Array Nat) : ∀ (n : Nat) (acc : Array Nat), (List.replicate n a).foldl (fun x y => x ++ y) acc = acc ++ (List.replicate n a.toList).flatten.toArray
  | 0, acc => by simp
  | n + 1, acc => by
    rw [List.replicate_succ, List.foldl_cons, fold_app a n]
    apply Array.toList_inj.mp
    simp [List.replicate_succ]
theorem repS_len (z : Str) (k : Int) : (repS z k).length = z.length * k.toNat := by
  show ((List.replicate k.toNat z.cps.toList).flatten.toArray).size = z.cps.size * k.toNat
  have : ∀ n : Nat, (List.replicate n z.cps.toList).flatten.length = z.cps.size * n := fun n => by
    induction n with
    | zero => rfl
    | succ n ih => rw [List.replicate_succ, List.flatten_cons, List.length_append, ih, Nat.mul_succ, Nat.add_comm]; rfl
  simp only [List.size_toArray]
  exact this _
section
variable {X : Cx}
theorem op_mul_str : OpR X (binaryOp .Mult) (fun x y H Q => ∃ (z : Str) (k : Int), x = .str z ∧ y = .int k ∧ -(2 ^ 62) ≤ k ∧ k ≤ 1000000 ∧ z.length * k.toNat ≤ sizeLine ∧ Q (.str (repS z k)) H) := by
  intro pins s σ H x y v u Q I rx ry h
  obtain ⟨z, k, rfl, rfl, k0, k1, hz, q⟩ := h
  obtain ⟨t, rfl⟩ := rx
  obtain ⟨t', rfl⟩ := ry
  have hs : sizeLine = 16777216 := sizeLine_eq
  refine P.mul_str (by rw [decide_eq_false (by omega), decide_eq_false (by omega)]; rfl) (fun h1 h2 => ?_) (fun h1 h2 => ?_) ?_
  · have hk : (1 : Int) ≤ k := by omega
    have hl : ((z.length : Nat) : Int) ≤ 16777216 := by
      have : 1 ≤ k.toNat := by omega
      have h3 : z.length * 1 ≤ z.length * k.toNat := Nat.mul_le_mul_left _ this
      omega
    have h4 : (9000000000000 : Int) ≤ (2 ^ 63 - 1) / k := by
      rw [Int.le_ediv_iff_mul_le (by omega)]
      omega
    omega
  · unfold Builtin.Str.tooLong
    exact decide_eq_false (by omega)
  · split
    · rename_i hk
      have e : repS z k = Str.empty := by
        unfold repS
        have : k.toNat = 0 := by omega
        rw [this]; rfl
      rw [e] at q
      exact ⟨by decide, .str Str.empty, H, I.tok _, ⟨_, rfl⟩, q⟩
    · split
      · rename_i hk h2
        have e : repS z k = z := by
          unfold repS
          by_cases h3 : k = 1
          · subst h3
            simp
          · have h4 : z.length = 0 := by simpa [h3] using h2
            have h5 : z.cps = #[] := Array.eq_empty_of_size_eq_zero h4
            cases z with
            | mk cps => simp only at h5; subst h5; simp
        rw [e] at q
        exact ⟨.str z, H, I, ⟨_, rfl⟩, q⟩
      · have e : (⟨(List.replicate k.toNat z.cps).foldl (· ++ ·) #[]⟩ : Str) = repS z k := by
          unfold repS
          rw [fold_app]
          simp
        rw [e]
        exact ⟨by rw [repS_len]; exact hz, .str (repS z k), H, I.tok _, ⟨_, rfl⟩, q⟩
end

/-- * -/
def mulV (x y : Val) : Option Val := match x.dat, y.dat with
  | some (.str z, _), some (.int k, _) => if -(2 ^ 62) ≤ k ∧ k ≤ 1000000 ∧ z.length * k.toNat ≤ sizeLine then some (.sh (.str (repS z k))) else none
  | some (.tuple ds, c), some (.int k, _) => if k ≤ 1000 ∧ -1000 ≤ k ∧ ds.length ≤ 1000 then some (shq c (.tuple (List.replicate k.toNat ds).flatten)) else none
  | some (.list _, _), some (.int k, _) => (match x.items with
    | some (ds, c) => if -(2 ^ 63) ≤ k ∧ k < 2 ^ 63 ∧ ds.length * k.toNat ≤ sizeLine then some (newL c (List.replicate k.toNat ds).flatten) else none
    | none => none)
  | _, _ => opF mulK x y
def rMul4 (K : Fg) : R2 := fun x y H Q => (((rI CMul (fun i j => .int (i * j)) x y H Q) ∨ (∃ (z : Str) (k : Int), x = .str z ∧ y = .int k ∧ -(2 ^ 62) ≤ k ∧ k ≤ 1000000 ∧ z.length * k.toNat ≤ sizeLine ∧ Q (.str (repS z k)) H)) ∨ rMulT K x y H Q) ∨ rRep x y H Q
theorem opr_mul {X : Cx} : OpR X (binaryOp .Mult) (rMul4 X.K) := OpR.or (OpR.or (OpR.or op_mul op_mul_str) op_mulT) op_rep
theorem ops_mul4 {K : Fg} : OpS K (rMul4 K) mulV := by
  intro F O A sl p0 p σ H0 H x y vx vy z Q R0 X0 R rx ry hg q
  unfold mulV at hg
  split at hg
  · rename_i zz _ k _ e1 e2
    split at hg
    · rename_i c
      cases hg
      exact .inl (.inl (.inr ⟨zz, k, rdS (rx.dat R0 R e1), rdI (ry.dat R0 R e2), c.1, c.2.1, c.2.2, q _ H (Ex.refl R) (toS (K := K) O H)⟩))
    · cases hg
  · rename_i ds c k _ e1 e2
    split at hg
    · rename_i cc
      cases hg
      obtain ⟨a, xs, rfl, ta, ra⟩ := rx.tupItems R0 R e1
      have la := ra.length
      have rd := rx.dat R0 R e1
      refine .inl (.inr ⟨a, k, xs, rfl, rdI (ry.dat R0 R e2), ta, cc.1, cc.2.1, by omega, fun hx => ?_, fun h1 h2 q' hq => ?_, fun h1 h2 q' hq => ?_⟩)
      · have e : (List.replicate k.toNat ds).flatten = ds := by
          rcases hx with hx | hx
          · subst hx
            have : ds = [] := List.eq_nil_of_length_eq_zero (by simpa using la.symm)
            subst this
            simp
          · subst hx; simp
        rw [e] at q
        exact q _ H (Ex.refl R) (VR.shq rd)
      · have e : k.toNat = 0 := by omega
        rw [e] at q
        exact q _ _ (Ex.new R hq) (VR.newT R hq .nil)
      · exact q _ _ (Ex.new R hq) (VR.newT R hq (ra.rep _))
    · cases hg
  · rename_i d0 c0 k _ e1 e2
    split at hg
    · rename_i ds c i1
      split at hg
      · rename_i cc
        cases hg
        obtain ⟨a, xs, rfl, ta, ra⟩ := rx.items R0 R i1
        have la := ra.length
        rcases ta with ⟨_, e3, ha⟩ | ⟨_, e3, _⟩
        · exact .inr ⟨a, k, xs, rfl, rdI (ry.dat R0 R e2), ha, cc.1, cc.2.1, by rw [la]; exact cc.2.2, fun q' hq => q _ _ (Ex.new R hq) (VR.newL R hq (ra.rep _))⟩
        · rw [e1] at e3; cases e3
      · cases hg
    · cases hg
  · exact .inl (.inl (.inl (ops_mul F O A sl p0 p σ H0 H x y vx vy z Q R0 X0 R rx ry hg q)))
end Pu
namespace Pu
open PySem PySem.Spec PyProof.Rows L2

section
variable {X : Cx} {a b c e : Expr} {fa fb fc f : Ev} {pos : Pos}

/-! ### chains, and, or, not, if -/
/-- a op b op' c, b reckoned once -/
def chainE (g g' : Val → Val → Option Val) (fa fb fc : Ev) (sl : Sl) (p : Pot) : Option (Val × Pot) := match fa sl p with
  | some (x, p1) => (match fb sl p1 with
    | some (y, p2) => (match g x y with
      | some (.sh (.bool true)) => (match fc sl p2 with
        | some (z, p3) => (match g' y z with
          | some w => some (w, p3)
          | none => none)
        | none => none)
      | some (.sh (.bool false)) => some (.sh (.bool false), p2)
      | _ => none)
    | none => none)
  | none => none
theorem tE_chain {K : Fg} {r r' : R2} {g g' : Val → Val → Option Val} (hs : OpS K r g) (hs' : OpS K r' g') : ∀ σ H Q, tE K (chainE g g' fa fb fc) σ H Q → tChain r r' (tE K fa) (tE K fb) (tE K fc) σ H Q := fun σ H Q h => by
  obtain ⟨F, O, A, sl, p, val, p', R, hf, q⟩ := h
  unfold chainE at hf
  split at hf
  · rename_i x p1 e1
    split at hf
    · rename_i y p2 e2
      refine tE.get R e1 fun v H1 x1 r1 => ?_
      have R1 := R.exp x1
      refine tE.get R1 e2 fun u H2 x2 r2 => ?_
      have x12 := x1.trans x2
      have R2 := R.exp x12
      have ry := r2.back x1
      split at hf
      · rename_i e3
        refine hs F O A sl p p2 σ H H2 v u x y _ _ R x12 R2 (r1.exp R x2) ry e3 fun w' H3 x3 r3 => ?_
        have ew : w' = .bl true := rdB (K := K) (O := O) (H := H3) r3
        refine ⟨true, ew, iteT ?_⟩
        have x13 := x12.trans x3
        have R3 := R.exp x13
        split at hf
        · rename_i z p3 e4
          split at hf
          · rename_i w4 e5
            cases hf
            refine tE.get R3 e4 fun t H4 x4 r4 => ?_
            have x14 := x13.trans x4
            exact hs' F O A sl p p' σ H H4 u t y z val Q R x14 (R.exp x14) (ry.exp R (x3.trans x4)) (r4.back x13) e5 fun w5 H5 x5 r5 => q w5 H5 (x14.trans x5) (r5.back x14)
          · cases hf
        · cases hf
      · rename_i e3
        cases hf
        refine hs F O A sl p p' σ H H2 v u x y _ _ R x12 R2 (r1.exp R x2) ry e3 fun w' H3 x3 r3 => ?_
        have ew : w' = .bl false := rdB (K := K) (O := O) (H := H3) r3
        exact ⟨false, ew, iteF (q _ H3 (x12.trans x3) (show RD K O H3 (.bool false) (.bl false) from toB O H3))⟩
      · cases hf
    · cases hf
  · cases hf
theorem ce_chain {op op' : CmpOp} {r r' : R2} {g g' : Val → Val → Option Val} (ho : OpR X (compareOp op) r) (hs : OpS X.K r g) (ho' : OpR X (compareOp op') r') (hs' : OpS X.K r' g') (ha : CE X a fa) (hb : CE X b fb) (hc : CE X c fc)
    (hm : lastMarks [op, op'] [b, c] = false := by with_unfolding_all rfl) : CE X (.Compare a [op, op'] [b, c] pos) (chainE g g' fa fb fc) :=
  PEimp (pe_chain ho ho' ha hb hc hm) (tE_chain hs hs')
theorem ct_chain {op op' : CmpOp} {r r' : R2} {g g' : Val → Val → Option Val} (ho : OpR X (compareOp op) r) (hs : OpS X.K r g) (ho' : OpR X (compareOp op') r') (hs' : OpS X.K r' g') (ha : CE X a fa) (hb : CE X b fb) (hc : CE X c fc)
    (hm : lastMarks [op, op'] [b, c] = false := by with_unfolding_all rfl) : CT X (.Compare a [op, op'] [b, c] pos) (chainE g g' fa fb fc) :=
  PTimp (pt_chain ho ho' ha hb hc hm) fun σ H Q h => tE_chain hs hs' σ H _ (tT_of σ H Q h)

def andE (fa fb : Ev) (sl : Sl) (p : Pot) : Option (Val × Pot) := match fa sl p with
  | some (.sh (.bool true), p1) => fb sl p1
  | some (.sh (.bool false), p1) => some (.sh (.bool false), p1)
  | _ => none
def orE (fa fb : Ev) (sl : Sl) (p : Pot) : Option (Val × Pot) := match fa sl p with
  | some (.sh (.bool true), p1) => some (.sh (.bool true), p1)
  | some (.sh (.bool false), p1) => fb sl p1
  | _ => none
def notE (fa : Ev) (sl : Sl) (p : Pot) : Option (Val × Pot) := match fa sl p with
  | some (.sh (.bool b), p1) => some (.sh (.bool (!b)), p1)
  | _ => none
def ifE (fc fa fb : Ev) (sl : Sl) (p : Pot) : Option (Val × Pot) := match fc sl p with
  | some (.sh (.bool true), p1) => fa sl p1
  | some (.sh (.bool false), p1) => fb sl p1
  | _ => none
/-- and what comes behind a test -/
theorem tE_after {K : Fg} {F : Fc} {O : Pred} {A : Nat → Addr} {sl : Sl} {p p1 p' : Pot} {σ : L2.St} {H H1 : Hp} {val : Val} {Q : VK} (R : Rl K F O A sl p σ H) (x1 : Ex F H H1 p1) (hf : f sl p1 = some (val, p'))
    (q : ∀ v H', Ex F H H' p' → VR K F O A sl H H' v val → Q v H') : tE K f σ H1 Q :=
  tE.get (R.exp x1) hf fun v H' x r => q v H' (x1.trans x) (r.back x1)
theorem tT_after {K : Fg} {F : Fc} {O : Pred} {A : Nat → Addr} {sl : Sl} {p p1 p' : Pot} {σ : L2.St} {H H1 : Hp} {b : Bool} {Q : Bool → Hp → Prop} (R : Rl K F O A sl p σ H) (x1 : Ex F H H1 p1) (hf : f sl p1 = some (.sh (.bool b), p'))
    (q : ∀ H', Ex F H H' p' → Q b H') : tT K f σ H1 Q :=
  ⟨F, O, A, sl, p1, b, p', R.exp x1, hf, fun H' x => q H' (x1.trans x)⟩
theorem ce_one {op} (h : CE X a f) : CE X (.BoolOp op [a] pos) f := pe_one h
theorem ce_and {rest : List Expr} (ha : CE X a fa) (hb : CE X (.BoolOp .And (b :: rest) pos) fb) : CE X (.BoolOp .And (a :: b :: rest) pos) (andE fa fb) := PEimp (pe_and ha hb) fun σ H Q h => by
  obtain ⟨F, O, A, sl, p, val, p', R, hf, q⟩ := h
  unfold andE at hf
  split at hf
  · rename_i p1 e1
    refine tE.get R e1 fun v H1 x1 r1 => ⟨true, rdB (K := X.K) (O := O) (H := H1) r1, iteT (tE_after R x1 hf q)⟩
  · rename_i p1 e1
    cases hf
    exact tE.get R e1 fun v H1 x1 r1 => ⟨false, rdB (K := X.K) (O := O) (H := H1) r1, iteF (q _ H1 x1 (show RD X.K O H1 (.bool false) (.bl false) from toB O H1))⟩
  · cases hf
theorem ce_or {rest : List Expr} (ha : CE X a fa) (hb : CE X (.BoolOp .Or (b :: rest) pos) fb) : CE X (.BoolOp .Or (a :: b :: rest) pos) (orE fa fb) := PEimp (pe_or ha hb) fun σ H Q h => by
  obtain ⟨F, O, A, sl, p, val, p', R, hf, q⟩ := h
  unfold orE at hf
  split at hf
  · rename_i p1 e1
    cases hf
    exact tE.get R e1 fun v H1 x1 r1 => ⟨true, rdB (K := X.K) (O := O) (H := H1) r1, iteT (q _ H1 x1 (show RD X.K O H1 (.bool true) (.bl true) from toB O H1))⟩
  · rename_i p1 e1
    refine tE.get R e1 fun v H1 x1 r1 => ⟨false, rdB (K := X.K) (O := O) (H := H1) r1, iteF (tE_after R x1 hf q)⟩
  · cases hf
theorem ce_not (ha : CE X a fa) : CE X (.UnaryOp .Not a pos) (notE fa) := PEimp (pe_not ha) fun σ H Q h => by
  obtain ⟨F, O, A, sl, p, val, p', R, hf, q⟩ := h
  unfold notE at hf
  split at hf
  · rename_i b p1 e1
    cases hf
    exact tE.get R e1 fun v H1 x1 r1 => ⟨b, rdB (K := X.K) (O := O) (H := H1) r1, q _ H1 x1 (show RD X.K O H1 (.bool (!b)) (.bl (!b)) from toB O H1)⟩
  · cases hf
/-- .. as tests -/
structure CW (X : Cx) (e : Expr) (f : Ev) : Prop where
  w : PW X e (tT X.K f)
theorem CW.t (h : CW X e f) : CT X e f := h.w.pt
theorem PWimp {e : Expr} {t t' : TT} (h : PW X e t) (i : ∀ σ H Q, t' σ H Q → t σ H Q) : PW X e t' := ⟨fun wh pins s σ H Q I w => h.run wh pins s σ H Q I (i σ H Q w)⟩
theorem cw_and1 (ha : CT X a fa) : CW X (.BoolOp .And [a] pos) fa := ⟨pw_and1 ha⟩
theorem cw_or1 (ha : CT X a fa) : CW X (.BoolOp .Or [a] pos) fa := ⟨pw_or1 ha⟩
theorem cw_and {rest : List Expr} (ha : CT X a fa) (hb : CW X (.BoolOp .And (b :: rest) pos) fb) : CW X (.BoolOp .And (a :: b :: rest) pos) (andE fa fb) := ⟨PWimp (pw_and ha hb.w) fun σ H Q h => by
  obtain ⟨F, O, A, sl, p, bb, p', R, hf, q⟩ := h
  unfold andE at hf
  split at hf
  · rename_i p1 e1
    exact ⟨F, O, A, sl, p, true, p1, R, e1, fun H1 x1 => iteT (tT_after R x1 hf q)⟩
  · rename_i p1 e1
    cases hf
    exact ⟨F, O, A, sl, p, false, _, R, e1, fun H1 x1 => iteF (q H1 x1)⟩
  · cases hf⟩
theorem cw_or {rest : List Expr} (ha : CT X a fa) (hb : CW X (.BoolOp .Or (b :: rest) pos) fb) : CW X (.BoolOp .Or (a :: b :: rest) pos) (orE fa fb) := ⟨PWimp (pw_or ha hb.w) fun σ H Q h => by
  obtain ⟨F, O, A, sl, p, bb, p', R, hf, q⟩ := h
  unfold orE at hf
  split at hf
  · rename_i p1 e1
    cases hf
    exact ⟨F, O, A, sl, p, true, _, R, e1, fun H1 x1 => iteT (q H1 x1)⟩
  · rename_i p1 e1
    exact ⟨F, O, A, sl, p, false, p1, R, e1, fun H1 x1 => iteF (tT_after R x1 hf q)⟩
  · cases hf⟩
theorem ct_not (ha : CT X a fa) : CT X (.UnaryOp .Not a pos) (notE fa) := PTimp (pt_not ha) fun σ H Q h => by
  obtain ⟨F, O, A, sl, p, bb, p', R, hf, q⟩ := h
  unfold notE at hf
  split at hf
  · rename_i b p1 e1
    cases hf
    exact ⟨F, O, A, sl, p, b, _, R, e1, fun H1 x1 => q H1 x1⟩
  · cases hf
theorem ce_if (hc : CT X c fc) (ha : CE X a fa) (hb : CE X b fb) : CE X (.IfExp c a b pos) (ifE fc fa fb) := PEimp (pe_ifExp hc ha hb) fun σ H Q h => by
  obtain ⟨F, O, A, sl, p, val, p', R, hf, q⟩ := h
  unfold ifE at hf
  split at hf
  · rename_i p1 e1
    exact ⟨F, O, A, sl, p, true, p1, R, e1, fun H1 x1 => iteT (tE_after R x1 hf q)⟩
  · rename_i p1 e1
    exact ⟨F, O, A, sl, p, false, p1, R, e1, fun H1 x1 => iteF (tE_after R x1 hf q)⟩
  · cases hf

/-! ### one part -/
def UnS (K : Fg) (r : V → Hp → VK → Prop) (g : Val → Option Val) : Prop :=
  ∀ (F : Fc) (O : Pred) (A : Nat → Addr) (sl : Sl) (p0 p : Pot) (σ : L2.St) (H0 H : Hp) (x : V) (vx z : Val) (Q : VK), Rl K F O A sl p0 σ H0 → Ex F H0 H p → Rl K F O A sl p σ H → VR K F O A sl H0 H x vx → g vx = some z →
    (∀ v H', Ex F H H' p → VR K F O A sl H H' v z → Q v H') → r x H Q
def unE (g : Val → Option Val) (fa : Ev) (sl : Sl) (p : Pot) : Option (Val × Pot) := match fa sl p with
  | some (x, p1) => (match g x with
    | some z => some (z, p1)
    | none => none)
  | none => none
theorem tE_un {K : Fg} {r : V → Hp → VK → Prop} {g : Val → Option Val} (hs : UnS K r g) : ∀ σ H Q, tE K (unE g fa) σ H Q → tUn r (tE K fa) σ H Q := fun σ H Q h => by
  obtain ⟨F, O, A, sl, p, val, p', R, hf, q⟩ := h
  unfold unE at hf
  split at hf
  · rename_i x p1 e1
    split at hf
    · rename_i z e3
      cases hf
      refine tE.get R e1 fun v H1 x1 r1 => ?_
      exact hs F O A sl p p' σ H H1 v x val Q R x1 (R.exp x1) r1 e3 fun w' H3 x3 r3 => q w' H3 (x1.trans x3) (r3.back x1)
    · cases hf
  · cases hf
def negV : Val → Option Val
  | .sh (.int i) => some (.sh (.int (-i)))
  | _ => none
theorem ce_neg (ha : CE X a fa) : CE X (.UnaryOp .USub a pos) (unE negV fa) := PEimp (pe_un un_neg ha) (tE_un fun F O A sl p0 p σ H0 H x vx z Q R0 X0 R rx hg q => by
  unfold negV at hg
  split at hg
  · rename_i i
    cases hg
    exact ⟨i, rdI (K := X.K) (O := O) (H := H) rx, q _ H (Ex.refl R) (show RD X.K O H (.int (-i)) (.int (-i)) from toI O H)⟩
  · cases hg)

/-! ### arguments -/
def argsE : List Ev → Sl → Pot → Option (List Val × Pot)
  | [], _, p => some ([], p)
  | f :: fs, sl, p => match f sl p with
    | some (x, p1) => (match argsE fs sl p1 with
      | some (xs, p2) => some (x :: xs, p2)
      | none => none)
    | none => none
def VRs (K : Fg) (F : Fc) (O : Pred) (A : Nat → Addr) (sl : Sl) (H H' : Hp) : List V → List Val → Prop
  | [], [] => True
  | v :: vs, x :: xs => VR K F O A sl H H' v x ∧ VRs K F O A sl H H' vs xs
  | _, _ => False
def tA (K : Fg) (fs : List Ev) : TA := fun σ H Q => ∃ F O A sl p vals p', Rl K F O A sl p σ H ∧ argsE fs sl p = some (vals, p') ∧ ∀ vs H', Ex F H H' p' → VRs K F O A sl H H' vs vals → Q vs H'
abbrev CA (X : Cx) (es : List Expr) (fs : List Ev) : Prop := PA X es (tA X.K fs)
section
variable {K : Fg} {F : Fc} {O : Pred} {A : Nat → Addr} {sl : Sl} {p p' : Pot} {σ : L2.St} {H H' H1 H2 : Hp}
theorem VRs.exp (R : Rl K F O A sl p σ H) (x : Ex F H1 H2 p') : ∀ {vs : List V} {xs : List Val}, VRs K F O A sl H H1 vs xs → VRs K F O A sl H H2 vs xs
  | [], [], _ => True.intro
  | v :: vs, y :: xs, h => ⟨h.1.exp R x, VRs.exp R x h.2⟩
  | [], _ :: _, h => h.elim
  | _ :: _, [], h => h.elim
theorem VRs.back (y : Ex F H H1 p) : ∀ {vs : List V} {xs : List Val}, VRs K F O A sl H1 H2 vs xs → VRs K F O A sl H H2 vs xs
  | [], [], _ => True.intro
  | v :: vs, z :: xs, h => ⟨h.1.back y, VRs.back y h.2⟩
  | [], _ :: _, h => h.elim
  | _ :: _, [], h => h.elim
/-- the data of values, whether none reaches an owned slot -/
def datsOf : List Val → Option (List PyData × Bool)
  | [] => some ([], true)
  | x :: xs => match x.dat, datsOf xs with
    | some (d, c), some (ds, c') => some (d :: ds, c && c')
    | _, _ => none
theorem VRs.dats (R : Rl K F O A sl p σ H) (R' : Rl K F O A sl p' σ H') : ∀ {vs : List V} {xs : List Val} {ds : List PyData} {c : Bool}, VRs K F O A sl H H' vs xs → datsOf xs = some (ds, c) → RDs K (Oq O A sl c) H' ds vs
  | [], [], _, _, _, e => by cases e; exact .nil
  | v :: vs, x :: xs, ds, c, h, e => by
    unfold datsOf at e
    split at e
    · rename_i d c1 ds' c2 e1 e2
      cases e
      exact .cons (RD.both (h.1.dat R R' e1)) (RDs.both' (VRs.dats R R' h.2 e2))
    · cases e
  | [], _ :: _, _, _, h, _ => h.elim
  | _ :: _, [], _, _, h, _ => h.elim
end
theorem ca_nil : CA X [] [] := PAimp pa_nil fun σ H Q h => by
  obtain ⟨F, O, A, sl, p, vals, p', R, hf, q⟩ := h
  cases hf
  exact q [] H (Ex.refl R) True.intro
theorem ca_cons {es : List Expr} {fs : List Ev} (ha : CE X e f) (hr : CA X es fs) (hs : starEach (e :: es) X.env = (false, eval e X.env) :: starEach es X.env := by rfl) : CA X (e :: es) (f :: fs) := PAimp (pa_cons ha hr hs) fun σ H Q h => by
  obtain ⟨F, O, A, sl, p, vals, p', R, hf, q⟩ := h
  unfold argsE at hf
  split at hf
  · rename_i x p1 e1
    split at hf
    · rename_i xs p2 e2
      cases hf
      refine tE.get R e1 fun v H1 x1 r1 => ?_
      exact ⟨F, O, A, sl, p1, xs, p', R.exp x1, e2, fun vs H2 x2 r2 => q (v :: vs) H2 (x1.trans x2) ⟨r1.exp R x2, r2.back x1⟩⟩
    · cases hf
  · cases hf

/-! ### displays -/
def tupE (fs : List Ev) (sl : Sl) (p : Pot) : Option (Val × Pot) := match argsE fs sl p with
  | some (xs, p1) => (match datsOf xs with
    | some (ds, c) => if ds.length ≤ sizeLine then some (newT c ds, p1) else none
    | none => none)
  | none => none
def lstE (fs : List Ev) (sl : Sl) (p : Pot) : Option (Val × Pot) := match argsE fs sl p with
  | some (xs, p1) => (match datsOf xs with
    | some (ds, c) => if ds.length ≤ sizeLine then some (newL c ds, p1) else none
    | none => none)
  | none => none
theorem ce_tup {es : List Expr} {fs : List Ev} {x1} (h : CA X es fs) : CE X (.Tuple es x1 pos) (tupE fs) := PEimp (pe_tup h) fun σ H Q h => by
  obtain ⟨F, O, A, sl, p, val, p', R, hf, q⟩ := h
  unfold tupE at hf
  split at hf
  · rename_i xs p1 e1
    split at hf
    · rename_i ds c e2
      split at hf
      · rename_i hz
        cases hf
        refine ⟨F, O, A, sl, p, xs, _, R, e1, fun vs H1 x1 r1 => ?_⟩
        have R1 := R.exp x1
        have rd := r1.dats R R1 e2
        exact ⟨by rw [rd.length]; exact hz, fun a ha => q _ _ (x1.trans (Ex.new R1 ha)) ((VR.newT R1 ha rd).back x1)⟩
      · cases hf
    · cases hf
  · cases hf
theorem ce_lst {es : List Expr} {fs : List Ev} (h : CA X es fs) : CE X (.List es pos) (lstE fs) := PEimp (pe_lst h) fun σ H Q h => by
  obtain ⟨F, O, A, sl, p, val, p', R, hf, q⟩ := h
  unfold lstE at hf
  split at hf
  · rename_i xs p1 e1
    split at hf
    · rename_i ds c e2
      split at hf
      · rename_i hz
        cases hf
        refine ⟨F, O, A, sl, p, xs, _, R, e1, fun vs H1 x1 r1 => ?_⟩
        have R1 := R.exp x1
        have rd := r1.dats R R1 e2
        exact ⟨by rw [rd.length]; exact hz, fun a ha => q _ _ (x1.trans (Ex.new R1 ha)) ((VR.newL R1 ha rd).back x1)⟩
      · cases hf
    · cases hf
  · cases hf
end
end Pu
namespace Pu
open PySem PySem.Spec PyProof.Rows L2

section
variable {X : Cx} {a b c e : Expr} {fa fb fc f : Ev} {pos p2 : Pos} {x : Str} {pn : Pos}

/-! ### places -/
theorem IxR.or {r r' : R2} (h : IxR X r) (h' : IxR X r') : IxR X (fun x y H Q => r x y H Q ∨ r' x y H Q) := by
  intro value slice pins s σ H x y v u Q I rx ry q hs
  rcases q with q | q
  · exact h value slice pins s σ H x y v u Q I rx ry q hs
  · exact h' value slice pins s σ H x y v u Q I rx ry q hs
def ixV (x y : Val) : Option Val := match y.dat with
  | some (.int i, _) => (match x.dat with
    | some (.str z, _) => if z.length ≤ sizeLine then (atI z.cps.toList i).map fun c => .sh (.str ⟨#[c]⟩) else none
    | _ => (match x.items with
      | some (ds, c) => (atI ds i).map (shf c)
      | none => none))
  | _ => none
theorem atI_get {α : Type} {xs : List α} {i : Int} {v : α} (h : atI xs i = some v) : ∃ j : Nat, ixN xs.length i = some j ∧ xs[j]? = some v := by
  unfold atI at h
  cases e : ixN xs.length i with
  | none => rw [e] at h; cases h
  | some j => rw [e] at h; exact ⟨j, rfl, h⟩
theorem RDs.atI {K : Fg} {O : Pred} {H : Hp} {ds : List PyData} {vs : List V} {i : Int} {d : PyData} (r : RDs K O H ds vs) (h : L2.atI ds i = some d) : ∃ v, L2.atI vs i = some v ∧ RD K O H d v := by
  obtain ⟨j, h1, h2⟩ := atI_get h
  obtain ⟨v, h3, h4⟩ := r.get h2
  refine ⟨v, ?_, h4⟩
  unfold L2.atI
  rw [r.length, h1]
  exact h3
theorem opr_ix : IxR X (fun x y H Q => (rIxL X.K x y H Q ∨ rIxT X.K x y H Q) ∨ rIxS x y H Q) := IxR.or (IxR.or ix_list ix_tup) ix_str
theorem ops_ix {K : Fg} : OpS K (fun x y H Q => (rIxL K x y H Q ∨ rIxT K x y H Q) ∨ rIxS x y H Q) ixV := by
  intro F O A sl p0 p σ H0 H x y vx vy z Q R0 X0 R rx ry hg q
  unfold ixV at hg
  split at hg
  · rename_i i _ e1
    have ey := rdI (ry.dat R0 R e1)
    split at hg
    · rename_i zz _ e2
      have ex := rdS (rx.dat R0 R e2)
      split at hg
      · rename_i hz
        obtain ⟨ch, h1, h2⟩ := Option.map_eq_some_iff.mp hg
        subst h2
        exact .inr ⟨zz, i, ch, ex, ey, hz, h1, q _ H (Ex.refl R) (show RD K O H _ (.str ⟨#[ch]⟩) from toS O H)⟩
      · cases hg
    · split at hg
      · rename_i ds c i1
        obtain ⟨d, h1, h2⟩ := Option.map_eq_some_iff.mp hg
        subst h2
        obtain ⟨l, vs, e3, t, r⟩ := rx.items R0 R i1
        obtain ⟨v, h3, h4⟩ := r.atI h1
        have fin := q v H (Ex.refl R) (VR.shf h4)
        rcases t with ⟨_, _, ha⟩ | ⟨_, _, ha⟩
        · exact .inl (.inl ⟨l, vs, i, v, e3, ey, SqL.of ha, h3, fin⟩)
        · exact .inl (.inr ⟨l, vs, i, v, e3, ey, ha, h3, fin⟩)
      · cases hg
  · cases hg
theorem ce_ix (ha : CE X a fa) (hb : CE X b fb) (hs : PlainIx b := by exact fun _ _ => rfl) : CE X (.Subscript a b pos) (binE ixV fa fb) := PEimp (pe_ix opr_ix ha hb hs) (tE_bin ops_ix)

/-! ### slices -/
def optE : Option Ev → Sl → Pot → Option (Option Int × Pot)
  | none, _, p => some (none, p)
  | some f, sl, p => match f sl p with
    | some (.sh (.int i), p1) => some (some i, p1)
    | _ => none
def tO (K : Fg) (f : Option Ev) : TO := fun σ H Q => ∃ F O A sl p o p', Rl K F O A sl p σ H ∧ optE f sl p = some (o, p') ∧ ∀ H', Ex F H H' p' → Q o H'
theorem POimp {e : Option Expr} {t t' : TO} (h : PO X e t) (i : ∀ σ H Q, t' σ H Q → t σ H Q) : PO X e t' := ⟨fun pins s σ H Q I w => h.run pins s σ H Q I (i σ H Q w)⟩
theorem co_none : PO X none (tO X.K none) := POimp po_none fun σ H Q h => by
  obtain ⟨F, O, A, sl, p, o, p', R, hf, q⟩ := h
  cases hf
  exact q H (Ex.refl R)
theorem co_some (ha : CE X a fa) : PO X (some a) (tO X.K (some fa)) := POimp (po_some ha) fun σ H Q h => by
  obtain ⟨F, O, A, sl, p, o, p', R, hf, q⟩ := h
  simp only [optE] at hf
  split at hf
  · rename_i i p1 e1
    cases hf
    exact tE.get R e1 fun v H' x r => ⟨i, rdI (K := X.K) (O := O) (H := H') r, q H' x⟩
  · cases hf
def cutD (xs : List PyData) (lo hi : Option Int) : List PyData := (xs.drop (HT.sIx xs.length 0 lo)).take (HT.sIx xs.length xs.length hi - HT.sIx xs.length 0 lo)
theorem RDs.cut {K : Fg} {O : Pred} {H : Hp} {ds : List PyData} {vs : List V} {lo hi : Option Int} (r : RDs K O H ds vs) : RDs K O H (cutD ds lo hi) (cutV vs lo hi) := by
  unfold cutD cutV
  rw [r.length]
  exact (r.drop _).take _
def slV (x : Val) (lo hi : Option Int) : Option Val := match x.dat with
  | some (.str z, _) => if z.length ≤ sizeLine then some (.sh (.str (cutS z lo hi))) else none
  | some (.tuple ds, c) => some (shq c (.tuple (cutD ds lo hi)))
  | some (.list _, _) => (match x.items with
    | some (ds, c) => some (newL c (cutD ds lo hi))
    | none => none)
  | _ => none
def slE (fa : Ev) (lo hi : Option Ev) (sl : Sl) (p : Pot) : Option (Val × Pot) := match fa sl p with
  | some (x, p1) => (match optE lo sl p1 with
    | some (l, p2) => (match optE hi sl p2 with
      | some (h, p3) => (match slV x l h with
        | some z => some (z, p3)
        | none => none)
      | none => none)
    | none => none)
  | none => none
theorem slr : SlR X (fun x lo hi H Q => (rSlL X.K x lo hi H Q ∨ rSlA X.K x lo hi H Q) ∨ rSlS x lo hi H Q) := SlR.or (SlR.or sl_list sl_tupA) sl_str
theorem ce_slice {lo hi : Option Expr} {fl fh : Option Ev} (ha : CE X a fa) (hl : PO X lo (tO X.K fl)) (hh : PO X hi (tO X.K fh)) : CE X (.Subscript a (.Slice lo hi none p2) pos) (slE fa fl fh) := PEimp (pe_slice slr ha hl hh) fun σ H Q h => by
  obtain ⟨F, O, A, sl, p, val, p', R, hf, q⟩ := h
  unfold slE at hf
  split at hf
  · rename_i x p1 e1
    split at hf
    · rename_i l p2 e2
      split at hf
      · rename_i h p3 e3
        split at hf
        · rename_i z e4
          cases hf
          refine tE.get R e1 fun v H1 x1 r1 => ⟨F, O, A, sl, p1, l, p2, R.exp x1, e2, fun H2 x2 => ⟨F, O, A, sl, p2, h, p', R.exp (x1.trans x2), e3, fun H3 x3 => ?_⟩⟩
          have x13 := (x1.trans x2).trans x3
          have R3 := R.exp x13
          have rx := (r1.exp R x2).exp R x3
          unfold slV at e4
          split at e4
          · rename_i zz _ e5
            split at e4
            · rename_i hz
              cases e4
              exact .inr ⟨zz, rdS (rx.dat R R3 e5), hz, q _ H3 x13 (show RD X.K O H3 _ (.str (cutS zz l h)) from toS O H3)⟩
            · cases e4
          · rename_i ds c e5
            cases e4
            obtain ⟨t, vs, e6, ht, r⟩ := rx.tupItems R R3 e5
            refine .inl (.inr ⟨t, vs, e6, ht, fun hw => ?_, fun hw q' hq => ?_⟩)
            · have ed : cutD ds l h = ds := by
                unfold cutD
                rw [r.length] at hw
                rw [hw.1, hw.2]
                simp
              rw [ed] at q
              have := rx.dat R R3 e5
              rw [e6] at this
              exact q _ H3 x13 (VR.shq this)
            · exact q _ _ (x13.trans (Ex.new R3 hq)) ((VR.newT R3 hq r.cut).back x13)
          · rename_i e8
            split at e4
            · rename_i ds c i1
              cases e4
              obtain ⟨t, vs, e6, ht, r⟩ := rx.items R R3 i1
              rcases ht with ⟨_, _, ha⟩ | ⟨_, e7, ha⟩
              · exact .inl (.inl ⟨t, vs, e6, SqL.of ha, fun q' hq => q _ _ (x13.trans (Ex.new R3 hq)) ((VR.newL R3 hq r.cut).back x13)⟩)
              · rw [e8] at e7; cases e7
            · cases e4
          · cases e4
        · cases hf
      · cases hf
    · cases hf
  · cases hf

/-! ### calls of built-ins -/
def CallS (K : Fg) (r : List V → Hp → VK → Prop) (g : List Val → Option Val) : Prop :=
  ∀ (F : Fc) (O : Pred) (A : Nat → Addr) (sl : Sl) (p0 p : Pot) (σ : L2.St) (H0 H : Hp) (vs : List V) (xs : List Val) (z : Val) (Q : VK), Rl K F O A sl p0 σ H0 → Ex F H0 H p → Rl K F O A sl p σ H → VRs K F O A sl H0 H vs xs → g xs = some z →
    (∀ v H', Ex F H H' p → VR K F O A sl H H' v z → Q v H') → r vs H Q
def callE (g : List Val → Option Val) (fs : List Ev) (sl : Sl) (p : Pot) : Option (Val × Pot) := match argsE fs sl p with
  | some (xs, p1) => (match g xs with
    | some z => some (z, p1)
    | none => none)
  | none => none
theorem tE_call {K : Fg} {r : List V → Hp → VK → Prop} {g : List Val → Option Val} {fs : List Ev} (hs : CallS K r g) : ∀ σ H Q, tE K (callE g fs) σ H Q → tCB r (tA K fs) σ H Q := fun σ H Q h => by
  obtain ⟨F, O, A, sl, p, val, p', R, hf, q⟩ := h
  unfold callE at hf
  split at hf
  · rename_i xs p1 e1
    split at hf
    · rename_i z e2
      cases hf
      refine ⟨F, O, A, sl, p, xs, _, R, e1, fun vs H1 x1 r1 => ?_⟩
      exact hs F O A sl p p' σ H H1 vs xs val Q R x1 (R.exp x1) r1 e2 fun v H2 x2 r2 => q v H2 (x1.trans x2) (r2.back x1)
    · cases hf
  · cases hf
theorem ce_callB {id : String} {r : List V → Hp → VK → Prop} {g : List Val → Option Val} {es : List Expr} {fs : List Ev} (hc : CallR X (.builtin id) r) (hs : CallS X.K r g) (hm : X.mg x = none) (hv : bootBuiltins x = some (.builtin id)) (ha : CA X (e :: es) fs)
    (hg : Gl X x := by rfl) (hn : x ≠ "__name__" := by decide) (hdb : (x == ("__debug__" : Str)) = false := by decide)
    (he : starEach (e :: es) X.env = (false, eval e X.env) :: starEach es X.env := by rfl) (hpl : (backTo pos (starEach es X.env)).any (·.1) = false := by rfl) : CE X (.Call (.Name x pn) (e :: es) [] pos) (callE g fs) :=
  PEimp (pe_callB hc hg hm hv ha hn hdb he hpl) (tE_call hs)
theorem ce_callTy {T : String} {r : List V → Hp → VK → Prop} {g : List Val → Option Val} {es : List Expr} {fs : List Ev} (hc : CallR X (.type T) r) (hs : CallS X.K r g) (hm : X.mg x = none) (hv : bootBuiltins x = some (.type T)) (ha : CA X (e :: es) fs)
    (hg : Gl X x := by rfl) (hn : x ≠ "__name__" := by decide) (hdb : (x == ("__debug__" : Str)) = false := by decide)
    (he : starEach (e :: es) X.env = (false, eval e X.env) :: starEach es X.env := by rfl) (hpl : (backTo pos (starEach es X.env)).any (·.1) = false := by rfl) : CE X (.Call (.Name x pn) (e :: es) [] pos) (callE g fs) :=
  PEimp (pe_callTy hc hg hm hv ha hn hdb he hpl) (tE_call hs)
theorem CallR.or {f : Value} {r r' : List V → Hp → VK → Prop} (h : CallR X f r) (h' : CallR X f r') : CallR X f (fun vs H Q => r vs H Q ∨ r' vs H Q) := by
  intro pins s σ H xs us Q I rs q
  rcases q with q | q
  · exact h pins s σ H xs us Q I rs q
  · exact h' pins s σ H xs us Q I rs q

section
variable {K : Fg} {F : Fc} {O : Pred} {A : Nat → Addr} {sl : Sl} {p p' : Pot} {σ : L2.St} {H H' : Hp}
theorem VRs.one {vs : List V} {y : Val} (h : VRs K F O A sl H H' vs [y]) : ∃ v, vs = [v] ∧ VR K F O A sl H H' v y := by
  cases vs with
  | nil => exact h.elim
  | cons v t => cases t with
    | nil => exact ⟨v, rfl, h.1⟩
    | cons _ _ => exact h.2.elim
theorem VRs.two {vs : List V} {y z : Val} (h : VRs K F O A sl H H' vs [y, z]) : ∃ v u, vs = [v, u] ∧ VR K F O A sl H H' v y ∧ VR K F O A sl H H' u z := by
  cases vs with
  | nil => exact h.elim
  | cons v t =>
    obtain ⟨u, e, r⟩ := VRs.one h.2
    subst e
    exact ⟨v, u, rfl, h.1, r⟩
theorem VRs.three {vs : List V} {y z w : Val} (h : VRs K F O A sl H H' vs [y, z, w]) : ∃ v u t, vs = [v, u, t] ∧ VR K F O A sl H H' v y ∧ VR K F O A sl H H' u z ∧ VR K F O A sl H H' t w := by
  cases vs with
  | nil => exact h.elim
  | cons v t =>
    obtain ⟨u, t', e, r, r'⟩ := VRs.two h.2
    subst e
    exact ⟨v, u, t', rfl, h.1, r, r'⟩
end

/-- len -/
def lenV : List Val → Option Val
  | [x] => (match x.dat with
    | some (.str z, _) => if z.length ≤ sizeLine then some (.sh (.int z.length)) else none
    | _ => (match x.items with
      | some (ds, _) => some (.sh (.int ds.length))
      | none => none))
  | _ => none
theorem cs_len {K : Fg} : CallS K (fun xs H Q => ∃ x n, xs = [x] ∧ LenV K x H n ∧ Q (.int n) H) lenV := by
  intro F O A sl p0 p σ H0 H vs xs z Q R0 X0 R rs hg q
  unfold lenV at hg
  split at hg
  · rename_i x
    obtain ⟨v, rfl, r⟩ := rs.one
    split at hg
    · rename_i zz _ e1
      split at hg
      · rename_i hz
        cases hg
        have ev := rdS (r.dat R0 R e1)
        subst ev
        exact ⟨_, zz.length, rfl, ⟨hz, rfl⟩, q _ H (Ex.refl R) (show RD K O H _ (.int _) from toI O H)⟩
      · cases hg
    · split at hg
      · rename_i ds c i1
        cases hg
        obtain ⟨l, us, rfl, t, rd⟩ := r.items R0 R i1
        have hl := rd.length
        refine ⟨_, ds.length, rfl, ?_, q _ H (Ex.refl R) (show RD K O H _ (.int _) from toI O H)⟩
        rcases t with ⟨_, _, ha⟩ | ⟨_, _, ha⟩
        · exact .inl ⟨us, SqL.of ha, hl.symm⟩
        · exact .inr ⟨us, ha, hl.symm⟩
      · cases hg
  · cases hg

/-- from data to a flat datum -/
def cF (k : List PyData → Option PyData) : List Val → Option Val := fun xs => match datsOf xs with
  | some (ds, _) => (match k ds with
    | some z => if flat z = true then some (.sh z) else none
    | none => none)
  | none => none
theorem cs_flat {K : Fg} {r : List V → Hp → VK → Prop} {k : List PyData → Option PyData}
    (h : ∀ (O1 : Pred) (H : Hp) (vs : List V) (ds : List PyData) (z : PyData) (Q : VK), RDs K O1 H ds vs → k ds = some z → (∀ v, (∀ O H, RD K O H z v) → Q v H) → r vs H Q) : CallS K r (cF k) := by
  intro F O A sl p0 p σ H0 H vs xs z Q R0 X0 R rs hg q
  unfold cF at hg
  split at hg
  · rename_i ds c e1
    split at hg
    · rename_i z' e2
      split at hg
      · rename_i fl
        cases hg
        exact h _ H vs ds z' Q (rs.dats R0 R e1) e2 fun v hv => q v H (Ex.refl R) (hv _ _)
      · cases hg
    · cases hg
  · cases hg
theorem rds1 {K : Fg} {O1 : Pred} {H : Hp} {d : PyData} {vs : List V} (r : RDs K O1 H [d] vs) : ∃ v, vs = [v] ∧ RD K O1 H d v := by
  simp only [RDs] at r
  obtain ⟨v, t, rfl, h, rfl⟩ := r
  exact ⟨v, rfl, h⟩
theorem rds2 {K : Fg} {O1 : Pred} {H : Hp} {d e : PyData} {vs : List V} (r : RDs K O1 H [d, e] vs) : ∃ v u, vs = [v, u] ∧ RD K O1 H d v ∧ RD K O1 H e u := by
  simp only [RDs] at r
  obtain ⟨v, t, rfl, h, u, t', rfl, h2, rfl⟩ := r
  exact ⟨v, u, rfl, h, h2⟩
def absK : List PyData → Option PyData
  | [.int i] => some (.int (if i < 0 then -i else i))
  | _ => none
theorem cs_abs {K : Fg} : CallS K (fun xs H Q => ∃ i, xs = [.int i] ∧ Q (.int (if i < 0 then -i else i)) H) (cF absK) := cs_flat fun O1 H vs ds z Q r hz q => by
  unfold absK at hz
  split at hz
  · cases hz
    obtain ⟨v, rfl, h⟩ := rds1 r
    exact ⟨_, by rw [rdI h], q _ toI⟩
  · cases hz
def maxK : List PyData → Option PyData
  | [.int i, .int j] => some (.int (if j > i then j else i))
  | _ => none
def minK : List PyData → Option PyData
  | [.int i, .int j] => some (.int (if j < i then j else i))
  | _ => none
theorem cs_max2 {K : Fg} : CallS K (fun xs H Q => ∃ i j, xs = [.int i, .int j] ∧ Q (.int (if j > i then j else i)) H) (cF maxK) := cs_flat fun O1 H vs ds z Q r hz q => by
  unfold maxK at hz
  split at hz
  · cases hz
    obtain ⟨v, u, rfl, h, h2⟩ := rds2 r
    exact ⟨_, _, by rw [rdI h, rdI h2], q _ toI⟩
  · cases hz
theorem cs_min2 {K : Fg} : CallS K (fun xs H Q => ∃ i j, xs = [.int i, .int j] ∧ Q (.int (if j < i then j else i)) H) (cF minK) := cs_flat fun O1 H vs ds z Q r hz q => by
  unfold minK at hz
  split at hz
  · cases hz
    obtain ⟨v, u, rfl, h, h2⟩ := rds2 r
    exact ⟨_, _, by rw [rdI h, rdI h2], q _ toI⟩
  · cases hz
def intK : List PyData → Option PyData
  | [.int i] => some (.int i)
  | [.bool b] => some (.int (if b then 1 else 0))
  | _ => none
theorem cs_int {K : Fg} : CallS K (fun xs H Q => (∃ i, xs = [.int i] ∧ Q (.int i) H) ∨ ∃ k, xs = [.bl k] ∧ Q (.int (if k then 1 else 0)) H) (cF intK) := cs_flat fun O1 H vs ds z Q r hz q => by
  unfold intK at hz
  split at hz
  · cases hz
    obtain ⟨v, rfl, h⟩ := rds1 r
    exact .inl ⟨_, by rw [rdI h], q _ toI⟩
  · cases hz
    obtain ⟨v, rfl, h⟩ := rds1 r
    exact .inr ⟨_, by rw [rdB h], q _ toI⟩
  · cases hz
/-- the bools, the ints of a list -/
def boolsOf : List PyData → Option (List Bool)
  | [] => some []
  | .bool b :: r => (boolsOf r).map (b :: ·)
  | _ => none
def intsOf : List PyData → Option (List Int)
  | [] => some []
  | .int b :: r => (intsOf r).map (b :: ·)
  | _ => none
def strsOf : List PyData → Option (List Str)
  | [] => some []
  | .str b :: r => (strsOf r).map (b :: ·)
  | _ => none
theorem boolsOf_map (bs : List Bool) : boolsOf (bs.map .bool) = some bs := by
  induction bs with
  | nil => rfl
  | cons b bs ih => simp only [List.map_cons, boolsOf, ih, Option.map_some]
theorem intsOf_map (bs : List Int) : intsOf (bs.map .int) = some bs := by
  induction bs with
  | nil => rfl
  | cons b bs ih => simp only [List.map_cons, intsOf, ih, Option.map_some]
theorem strsOf_map (bs : List Str) : strsOf (bs.map .str) = some bs := by
  induction bs with
  | nil => rfl
  | cons b bs ih => simp only [List.map_cons, strsOf, ih, Option.map_some]
theorem of_boolsOf : ∀ {ds : List PyData} {bs : List Bool}, boolsOf ds = some bs → ds = bs.map .bool
  | [], _, h => by cases h; rfl
  | d :: ds, _, h => by
    cases d with
    | bool b =>
      obtain ⟨r, h1, rfl⟩ := Option.map_eq_some_iff.mp h
      rw [List.map_cons, of_boolsOf h1]
    | _ => cases h
theorem of_intsOf : ∀ {ds : List PyData} {bs : List Int}, intsOf ds = some bs → ds = bs.map .int
  | [], _, h => by cases h; rfl
  | d :: ds, _, h => by
    cases d with
    | int b =>
      obtain ⟨r, h1, rfl⟩ := Option.map_eq_some_iff.mp h
      rw [List.map_cons, of_intsOf h1]
    | _ => cases h
theorem of_strsOf : ∀ {ds : List PyData} {bs : List Str}, strsOf ds = some bs → ds = bs.map .str
  | [], _, h => by cases h; rfl
  | d :: ds, _, h => by
    cases d with
    | str b =>
      obtain ⟨r, h1, rfl⟩ := Option.map_eq_some_iff.mp h
      rw [List.map_cons, of_strsOf h1]
    | _ => cases h
def allK : List PyData → Option PyData
  | [.list ds] => (boolsOf ds).map fun bs => .bool (bs.all id)
  | _ => none
def anyK : List PyData → Option PyData
  | [.list ds] => (boolsOf ds).map fun bs => .bool (bs.any id)
  | _ => none
def sumK : List PyData → Option PyData
  | [.list ds] => (intsOf ds).map fun bs => .int bs.sum
  | _ => none
theorem rdL {K : Fg} {O1 : Pred} {H : Hp} {ds : List PyData} {v : V} (h : RD K O1 H (.list ds) v) : ∃ a vs, v = .ref a ∧ SqL K H a vs ∧ RDs K O1 H ds vs := by
  simp only [RD] at h
  obtain ⟨a, vs, e, _, h1, h2⟩ := h
  exact ⟨a, vs, e, SqL.of h1, h2⟩
theorem cs_all {K : Fg} : CallS K (rAll K) (cF allK) := cs_flat fun O1 H vs ds z Q r hz q => by
  unfold allK at hz
  split at hz
  · rename_i es
    obtain ⟨bs, h1, rfl⟩ := Option.map_eq_some_iff.mp hz
    obtain ⟨v, rfl, h⟩ := rds1 r
    obtain ⟨a, us, rfl, h2, h3⟩ := rdL h
    rw [of_boolsOf h1] at h3
    rw [RDs.of_bools h3] at h2
    exact ⟨a, bs, rfl, h2, q _ toB⟩
  · cases hz
theorem cs_any {K : Fg} : CallS K (rAny K) (cF anyK) := cs_flat fun O1 H vs ds z Q r hz q => by
  unfold anyK at hz
  split at hz
  · rename_i es
    obtain ⟨bs, h1, rfl⟩ := Option.map_eq_some_iff.mp hz
    obtain ⟨v, rfl, h⟩ := rds1 r
    obtain ⟨a, us, rfl, h2, h3⟩ := rdL h
    rw [of_boolsOf h1] at h3
    rw [RDs.of_bools h3] at h2
    exact ⟨a, bs, rfl, h2, q _ toB⟩
  · cases hz
theorem cs_sum {K : Fg} : CallS K (rSum K) (cF sumK) := cs_flat fun O1 H vs ds z Q r hz q => by
  unfold sumK at hz
  split at hz
  · rename_i es
    obtain ⟨bs, h1, rfl⟩ := Option.map_eq_some_iff.mp hz
    obtain ⟨v, rfl, h⟩ := rds1 r
    obtain ⟨a, us, rfl, h2, h3⟩ := rdL h
    rw [of_intsOf h1] at h3
    rw [RDs.of_ints h3] at h2
    exact ⟨a, bs, rfl, h2, q _ toI⟩
  · cases hz

/-! ### isinstance -/
def tname : PyData → String
  | .none => "NoneType"
  | .bool _ => "bool"
  | .int _ => "int"
  | .str _ => "str"
  | .list _ => "list"
  | .tuple _ => "tuple"
  | .dict _ => "dict"
theorem RD.ty {K : Fg} {O1 : Pred} {H : Hp} {d : PyData} {v : V} (r : RD K O1 H d v) : TyX K H v (.type (tname d)) := by
  cases d with
  | none => rw [rdN r]; exact .base .non
  | bool b => rw [rdB r]; exact .base (.bl b)
  | int i => rw [rdI r]; exact .base (.int i)
  | str i => rw [rdS r]; exact .base (.str i)
  | list ds =>
    simp only [RD] at r
    obtain ⟨a, vs, rfl, _, h, _⟩ := r
    exact .base (.lst h)
  | tuple ds =>
    simp only [RD] at r
    obtain ⟨a, vs, rfl, h, _⟩ := r
    rcases h with ⟨_, h⟩ | ⟨o, its, n, h1, h2, _⟩
    · exact .base (.tup h)
    · exact .kTuple h1 h2
  | dict kvs =>
    simp only [RD] at r
    obtain ⟨a, rfl, _, h⟩ := r
    rcases h with ⟨kv, h, _⟩ | ⟨kv, h, _⟩
    · exact .base (.dK h)
    · exact .base (.dT h)
/-- isinstance of a datum and the classes so named -/
def isiB (d : PyData) : String → Option Bool
  | "int" => some (match d with | .int _ => true | .bool _ => true | _ => false)
  | "bool" => some (match d with | .bool _ => true | _ => false)
  | "str" => some (match d with | .str _ => true | _ => false)
  | "list" => some (match d with | .list _ => true | _ => false)
  | "tuple" => some (match d with | .tuple _ => true | _ => false)
  | "dict" => some (match d with | .dict _ => true | _ => false)
  | _ => none
theorem isiB_kit {K : Fg} {d : PyData} {T : String} {b : Bool} (h : isiB d T = some b) : PySem.W.kitOne K (.type (tname d)) (.type T) = some b := by
  refine kit_ty ?_
  unfold isiB at h
  split at h
  all_goals first | (cases h; done) | (cases h; cases d <;> (dsimp only [tname]; decide +kernel))
def isiE (T : String) (fa : Ev) (sl : Sl) (p : Pot) : Option (Val × Pot) := match fa sl p with
  | some (x, p1) => (match x.dat with
    | some (d, _) => (match isiB d T with
      | some b => some (.sh (.bool b), p1)
      | none => none)
    | none => none)
  | none => none
theorem ce_isi {T : String} {y : Str} {py : Pos} (ha : CE X a fa) (hm : X.mg "isinstance" = none) (hy : X.mg y = none) (hv : bootBuiltins y = some (.type T)) (hg : Gl X "isinstance" := by rfl) (hgy : Gl X y := by rfl) (hn : y ≠ "__name__" := by decide) (hd : (y == ("__debug__" : Str)) = false := by decide)
    (h1 : starEach [a, .Name y py] X.env = (false, eval a X.env) :: starEach [.Name y py] X.env := by rfl) (h2 : starEach [.Name y py] X.env = (false, eval (.Name y py) X.env) :: starEach [] X.env := by rfl)
    (h3 : (backTo pos (starEach [.Name y py] X.env)).any (·.1) = false := by rfl) : CE X (.Call (.Name "isinstance" pn) [a, .Name y py] [] pos) (isiE T fa) :=
  PEimp (pe_callB call_isi hg hm (by decide +kernel) (pa_cons ha (pa_cons (pe_bltn (v := .ty T) hgy hy hv rfl hn hd) pa_nil h2) h1) (by decide) (by decide) h1 h3) fun σ H Q h => by
    obtain ⟨F, O, A, sl, p, val, p', R, hf, q⟩ := h
    unfold isiE at hf
    split at hf
    · rename_i x p1 e1
      split at hf
      · rename_i d c e2
        split at hf
        · rename_i b e3
          cases hf
          refine tE.get R e1 fun v H1 x1 r1 => ?_
          exact ⟨v, .ty T, _, _, b, rfl, .ty T, RD.ty (r1.dat R (R.exp x1) e2), isiB_kit e3, q _ H1 x1 (show RD X.K O H1 (.bool b) (.bl b) from toB O H1)⟩
        · cases hf
      · cases hf
    · cases hf
end
end Pu
namespace Pu
open PySem PySem.Spec PyProof.Rows L2

/-! ### slots: frozen, stored -/
def frzS : Slot → Slot
  | .own c => .sh c
  | .iso c => .sh c
  | s => s
def frz1 (j : Nat) (sl : Sl) : Sl := match sl[j]? with
  | some s => sl.set j (frzS s)
  | none => sl
/-- the value is stored at slot i -/
def asg (i : Nat) (v : Val) (sl : Sl) : Option Sl := if i < sl.length then (match v with
  | .sh d => some (sl.set i (.sh d))
  | .fr c => some (sl.set i (.own c))
  | .is c => some (sl.set i (.iso c))
  | .pot => some (sl.set i .pot)
  | .ow j c => some ((frz1 j sl).set i (.sh c))
  | .bo d => some ((sl.map frzS).set i (.sh d))) else none

section
variable {K : Fg} {F : Fc} {O : Pred} {A : Nat → Addr} {sl sl' : Sl} {p p' : Pot} {σ : L2.St} {H H' : Hp}
theorem frzS_box (s : Slot) : isBox (frzS s) = false := by cases s <;> rfl
theorem Rl.frzAll (R : Rl K F O A sl p σ H) : Rl K F (Ob O A sl) A (sl.map frzS) p σ H := by
  refine ⟨fun b h => R.dom b h.1, R.boOc, R.cd, R.apO, R.ext, R.pot, fun i s e => ?_, fun i j s t e b => ?_, by rw [List.length_map]; exact R.len⟩
  · rw [List.getElem?_map] at e
    obtain ⟨s0, e0, rfl⟩ := Option.map_eq_some_iff.mp e
    have q := R.slot i s0 e0
    cases s0 with
    | un => exact True.intro
    | sh d => obtain ⟨v, e1, r⟩ := q; exact ⟨v, e1, r.map Ob_map⟩
    | own c =>
      obtain ⟨e1, r, o, z⟩ := q
      exact ⟨_, e1, RC.rd (r.map Ob_map fun _ h => h) fun h => h.2 i _ e0 rfl rfl⟩
    | iso c =>
      obtain ⟨e1, r, o, z, t⟩ := q
      exact ⟨_, e1, r.map fun b x n e => ⟨fun h => n ⟨h.1, h.2 i _ e0 rfl⟩, e⟩⟩
    | pot => exact q
  · rw [List.getElem?_map] at e
    obtain ⟨s0, e0, rfl⟩ := Option.map_eq_some_iff.mp e
    rw [frzS_box] at b; cases b
theorem Rl.frz1 (R : Rl K F O A sl p σ H) {j : Nat} {s : Slot} (ej : sl[j]? = some s) (bj : isBox s = true) : Rl K F (fun b => O b ∧ b ≠ A j) A (frz1 j sl) p σ H := by
  have hj : j < sl.length := (List.getElem?_eq_some_iff.mp ej).1
  unfold Pu.frz1
  rw [ej]
  refine ⟨fun b h => R.dom b h.1, fun b h => ⟨R.cur b h, fun z => ?_⟩, R.cd, R.apO, R.ext, R.pot, fun i t e => ?_, fun i k u t e b e2 b2 => ?_, by rw [List.length_set]; exact R.len⟩
  · have q := (R.box ej bj).2.1
    rw [← z] at q
    exact R.cd b h q
  · by_cases hij : i = j
    · subst hij
      rw [List.getElem?_set_self hj] at e
      cases e
      have q := R.slot i s ej
      cases s with
      | own c =>
        obtain ⟨e1, r, o, z⟩ := q
        exact ⟨_, e1, RC.rd (r.map (fun b x n e => ⟨fun h => n h.1, e⟩) fun _ h => h) fun h => h.2 rfl⟩
      | iso c =>
        obtain ⟨e1, r, o, z, t⟩ := q
        exact ⟨_, e1, r⟩
      | _ => cases bj
    · rw [List.getElem?_set_ne (Ne.symm hij)] at e
      have q := R.slot i t e
      cases t with
      | un => exact True.intro
      | sh d => obtain ⟨v, e1, r⟩ := q; exact ⟨v, e1, r.map fun b x n e => ⟨fun h => n h.1, e⟩⟩
      | own c =>
        obtain ⟨e1, r, o, z⟩ := q
        exact ⟨e1, r.map (fun b x n e => ⟨fun h => n h.1, e⟩) (fun _ h => h), ⟨o, fun h => hij (R.inj i j _ _ e rfl ej bj h)⟩, z⟩
      | iso c =>
        obtain ⟨e1, r, o, z, t⟩ := q
        exact ⟨e1, r.map fun b x n e => ⟨fun h => n ⟨h.1.1, h.2⟩, e⟩, ⟨o, fun h => hij (R.inj i j _ _ e rfl ej bj h)⟩, z, t⟩
      | pot => exact q
  · have ne : ∀ {i : Nat} {u : Slot}, (sl.set j (frzS s))[i]? = some u → isBox u = true → sl[i]? = some u := fun {i u} e b => by
      by_cases hij : i = j
      · subst hij
        rw [List.getElem?_set_self hj] at e
        cases e
        rw [frzS_box] at b; cases b
      · rw [List.getElem?_set_ne (Ne.symm hij)] at e
        exact e
    exact R.inj i k u t (ne e b) b (ne e2 b2) b2
/-- a slot's new content that is no container -/
theorem Rl.setN (R : Rl K F O A sl p σ H) {i : Nat} {s : Slot} {v : V} (hi : i < sl.length) (nb : isBox s = false) (hs : ∀ σ : L2.St, σ[i]? = some (some v) → SlotR K F O A σ H i s) : Rl K F O A (sl.set i s) p (σ.set i (some v)) H := by
  have hσ : i < σ.length := by rw [← R.len]; exact hi
  refine ⟨R.dom, R.cur, R.cd, R.apO, R.ext, R.pot, fun j t e => ?_, fun j k u t e b e2 b2 => ?_, by rw [List.length_set, List.length_set]; exact R.len⟩
  · by_cases hij : j = i
    · subst hij
      rw [List.getElem?_set_self hi] at e
      cases e
      exact hs _ (List.getElem?_set_self hσ)
    · rw [List.getElem?_set_ne (Ne.symm hij)] at e
      have q := R.slot j t e
      have es : (σ.set i (some v))[j]? = σ[j]? := List.getElem?_set_ne (Ne.symm hij)
      cases t with
      | un => exact True.intro
      | sh d => obtain ⟨v', e1, r⟩ := q; exact ⟨v', by rw [es]; exact e1, r⟩
      | own c => obtain ⟨e1, r⟩ := q; exact ⟨by rw [es]; exact e1, r⟩
      | iso c => obtain ⟨e1, r⟩ := q; exact ⟨by rw [es]; exact e1, r⟩
      | pot => exact (by rw [es]; exact q : (σ.set i (some v))[j]? = some (some (.ref F.ap)))
  · have ne : ∀ {j : Nat} {u : Slot}, (sl.set i s)[j]? = some u → isBox u = true → sl[j]? = some u := fun {j u} e b => by
      by_cases hij : j = i
      · subst hij
        rw [List.getElem?_set_self hi] at e
        cases e
        rw [nb] at b; cases b
      · rw [List.getElem?_set_ne (Ne.symm hij)] at e
        exact e
    exact R.inj j k u t (ne e b) b (ne e2 b2) b2
theorem Rl.setSh (R : Rl K F O A sl p σ H) {i : Nat} {d : PyData} {v : V} (hi : i < sl.length) (r : RD K O H d v) : Rl K F O A (sl.set i (.sh d)) p (σ.set i (some v)) H :=
  R.setN hi rfl fun _ e => ⟨v, e, r⟩
def updA (A : Nat → Addr) (i : Nat) (q : Addr) : Nat → Addr := fun j => if j = i then q else A j
theorem updA_eq {A : Nat → Addr} {i : Nat} {q : Addr} : updA A i q i = q := if_pos rfl
theorem updA_ne {A : Nat → Addr} {i j : Nat} {q : Addr} (h : j ≠ i) : updA A i q j = A j := if_neg h
/-- .. that is one: at q, of which the slots know nothing -/
theorem Rl.setB (R : Rl K F O A sl p σ H) {i : Nat} {s : Slot} {q : Addr} (hi : i < sl.length) (nb : ∀ j t, sl[j]? = some t → isBox t = true → A j ≠ q)
    (hs : ∀ (A' : Nat → Addr) (σ : L2.St), A' i = q → σ[i]? = some (some (.ref q)) → SlotR K F O A' σ H i s) : ∃ A', Rl K F O A' (sl.set i s) p (σ.set i (some (.ref q))) H := by
  have hσ : i < σ.length := by rw [← R.len]; exact hi
  refine ⟨updA A i q, R.dom, R.cur, R.cd, R.apO, R.ext, R.pot, fun j t e => ?_, fun j k u t e b e2 b2 h => ?_, by rw [List.length_set, List.length_set]; exact R.len⟩
  · by_cases hij : j = i
    · subst hij
      rw [List.getElem?_set_self hi] at e
      cases e
      exact hs _ _ updA_eq (List.getElem?_set_self hσ)
    · rw [List.getElem?_set_ne (Ne.symm hij)] at e
      have q0 := R.slot j t e
      have es : (σ.set i (some (V.ref q)))[j]? = σ[j]? := List.getElem?_set_ne (Ne.symm hij)
      have ea : updA A i q j = A j := updA_ne hij
      cases t with
      | un => exact True.intro
      | sh d => obtain ⟨v', e1, r⟩ := q0; exact ⟨v', by rw [es]; exact e1, r⟩
      | own c =>
        obtain ⟨e1, r, o, z⟩ := q0
        exact ⟨by rw [es, ea]; exact e1, by rw [ea]; exact r, by rw [ea]; exact o, by rw [ea]; exact z⟩
      | iso c =>
        obtain ⟨e1, r, o, z, t⟩ := q0
        exact ⟨by rw [es, ea]; exact e1, by rw [ea]; exact r, by rw [ea]; exact o, by rw [ea]; exact z, by rw [ea]; exact t⟩
      | pot => exact (by rw [es]; exact q0 : (σ.set i (some (V.ref q)))[j]? = some (some (.ref F.ap)))
  · have old : ∀ {j : Nat} {u : Slot}, j ≠ i → (sl.set i s)[j]? = some u → sl[j]? = some u := fun {j u} n e => by
      rw [List.getElem?_set_ne (Ne.symm n)] at e
      exact e
    by_cases hj : j = i
    · by_cases hk : k = i
      · rw [hj, hk]
      · rw [hj, updA_eq, updA_ne hk] at h
        exact absurd h.symm (nb k t (old hk e2) b2)
    · by_cases hk : k = i
      · rw [hk, updA_eq, updA_ne hj] at h
        exact absurd h (nb j u (old hj e) b)
      · rw [updA_ne hj, updA_ne hk] at h
        exact R.inj j k u t (old hj e) b (old hk e2) b2 h
theorem Rl.h0 (R : Rl K F O A sl p σ H) {q : Addr} (n : H q = none) : F.H0 q = none := by
  cases z : F.H0 q with
  | none => rfl
  | some u =>
    by_cases w : q = F.ap
    · rw [w] at n; exact absurd n R.potNe
    · rw [R.ext q u w z] at n; cases n
/-- what statements may change: what O holds, and what is new -/
structure Tr (O : Pred) (H : Hp) (O' : Pred) (H' : Hp) : Prop where
  fr : ∀ b x, ¬ O b → H b = some x → H' b = some x
  nw : ∀ b, O' b → O b ∨ H b = none
theorem Tr.refl (O : Pred) (H : Hp) : Tr O H O H := ⟨fun _ _ _ e => e, fun _ h => .inl h⟩
theorem Tr.trans {O1 O2 : Pred} {H1 H2 : Hp} (a : Tr O H O1 H1) (b : Tr O1 H1 O2 H2) : Tr O H O2 H2 := by
  have n1 : ∀ c x, ¬ O c → H c = some x → ¬ O1 c := fun c x n e z => (a.nw c z).elim n fun w => by rw [w] at e; cases e
  refine ⟨fun c x n e => b.fr c x (n1 c x n e) (a.fr c x n e), fun c h => ?_⟩
  rcases b.nw c h with z | z
  · exact a.nw c z
  · by_cases w : O c
    · exact .inl w
    · cases q : H c with
      | none => exact .inr rfl
      | some x => rw [a.fr c x w q] at z; cases z
theorem Tr.map {O1 : Pred} {H1 : Hp} (a : Tr O H O1 H1) : ∀ b x, ¬ O b → H b = some x → ¬ O1 b ∧ H1 b = some x := fun b x n e =>
  ⟨fun z => (a.nw b z).elim n fun w => (by rw [w] at e; cases e), a.fr b x n e⟩
theorem Rl.tr (R : Rl K F O A sl p σ H) (x : Ex F H H' p') : Tr O H O H' := ⟨fun b y n e => x.keep b y (fun z => n (by rw [z]; exact R.ap)) e, fun _ h => .inl h⟩
theorem asg_ok {i : Nat} {val : Val} {v : V} (R : Rl K F O A sl p σ H) (x : Ex F H H' p') (r : VR K F O A sl H H' v val) (e : asg i val sl = some sl') : ∃ O' A', Rl K F O' A' sl' p' (σ.set i (some v)) H' ∧ Tr O H O' H' := by
  have T := R.tr x
  unfold asg at e
  split at e
  · rename_i hi
    have R' := R.exp x
    cases val with
    | sh d => cases e; exact ⟨O, A, R'.setSh hi r, T⟩
    | pot => cases e; exact ⟨O, A, R'.setN hi rfl fun σ es => by rw [show v = .ref F.ap from r] at es; exact es, T⟩
    | fr c =>
      cases e
      obtain ⟨q, rfl, n, rc⟩ := r
      obtain ⟨o, ho⟩ := rc.there
      have R2 := R.add n x (by rw [ho]; exact fun z => nomatch z)
      obtain ⟨A', R3⟩ := R2.setB (s := .own c) (q := q) hi (fun j t ej bj z => by
        obtain ⟨_, _, y, hy⟩ := R.box ej bj
        rw [z, n] at hy; cases hy) fun A1 σ1 ea es => ⟨by rw [ea]; exact es, by rw [ea]; exact rc, by rw [ea]; exact .inr rfl, by rw [ea]; exact R.h0 n⟩
      exact ⟨_, A', R3, T.fr, fun b h => h.elim .inl fun z => .inr (by rw [z]; exact n)⟩
    | is c =>
      cases e
      obtain ⟨q, rfl, n, t, rd⟩ := r
      have R2 := R.add n x t
      obtain ⟨A', R3⟩ := R2.setB (s := .iso c) (q := q) hi (fun j t ej bj z => by
        obtain ⟨_, _, y, hy⟩ := R.box ej bj
        rw [z, n] at hy; cases hy) fun A1 σ1 ea es => ⟨by rw [ea]; exact es, by
          rw [ea]
          exact rd.map fun b y nb e => ⟨fun h => h.1.elim nb h.2, e⟩, by rw [ea]; exact .inr rfl, by rw [ea]; exact R.h0 n, by rw [ea]; exact t⟩
      exact ⟨_, A', R3, T.fr, fun b h => h.elim .inl fun z => .inr (by rw [z]; exact n)⟩
    | ow j c =>
      cases e
      obtain ⟨rfl, ej⟩ := r
      have q := R'.slot j _ ej
      have R2 := R'.frz1 ej rfl
      have hl : (frz1 j sl).length = sl.length := by unfold frz1; rw [ej]; simp
      exact ⟨_, A, R2.setSh (by rw [hl]; exact hi) (RC.rd (q.2.1.map (fun b x n e => ⟨fun h => n h.1, e⟩) fun _ h => h) fun h => h.2 rfl), T.fr, fun b h => .inl h.1⟩
    | bo d =>
      cases e
      exact ⟨_, A, R'.frzAll.setSh (by rw [List.length_map]; exact hi) r, T.fr, fun b h => .inl h.1⟩
  · cases e
end

/-! ### statements -/
/-- a def's answer v at H', from the entry -/
def RetR (K : Fg) (F : Fc) (val : Val) (v : V) (H' : Hp) (p' : Pot) : Prop :=
  (∀ b x, b ≠ F.ap → F.H0 b = some x → H' b = some x) ∧ H' F.ap = some (.lst [.int p'.1, .int p'.2]) ∧ match val with
    | .sh d => RD K F.Oc H' d v
    | .fr c => ∃ q, v = .ref q ∧ F.H0 q = none ∧ RC K (Oa F.Oc q) H' c q
    | .pot => v = .ref F.ap
    | _ => False
def OutK (K : Fg) (F : Fc) (O : Pred) (H : Hp) (D : Ends) : Out → Prop
  | .nx sl' p' => ∀ O' A' σ' H', Rl K F O' A' sl' p' σ' H' → Tr O H O' H' → D.nx σ' H'
  | .bk sl' p' => ∀ O' A' σ' H', Rl K F O' A' sl' p' σ' H' → Tr O H O' H' → D.bk σ' H'
  | .ct sl' p' => ∀ O' A' σ' H', Rl K F O' A' sl' p' σ' H' → Tr O H O' H' → D.ct σ' H'
  | .rt val p' => ∀ v H', RetR K F val v H' p' → D.rt v H'
theorem OutK.tr {K : Fg} {F : Fc} {O O1 : Pred} {H H1 : Hp} {D : Ends} {out : Out} (q : OutK K F O H D out) (T : Tr O H O1 H1) : OutK K F O1 H1 D out := by
  cases out with
  | nx sl' p' => exact fun O' A' σ' H' R T' => q O' A' σ' H' R (T.trans T')
  | bk sl' p' => exact fun O' A' σ' H' R T' => q O' A' σ' H' R (T.trans T')
  | ct sl' p' => exact fun O' A' σ' H' R T' => q O' A' σ' H' R (T.trans T')
  | rt val p' => exact q
def tS (K : Fg) (s : Sm) : TS := fun D σ H => ∃ F O A sl p out, Rl K F O A sl p σ H ∧ s sl p = some out ∧ OutK K F O H D out
abbrev CS (X : Cx) (st : Stmt) (s : Sm) : Prop := PS X st (tS X.K s)
abbrev CB (X : Cx) (st : List Stmt) (s : Sm) : Prop := PSs X st (tS X.K s)

section
variable {X : Cx} {a b c e : Expr} {fa fb fc f : Ev} {pos p2 : Pos} {x : Str} {pn : Pos} {st : Stmt} {rest bd el : List Stmt} {s t : Sm}
def seqS (s t : Sm) (sl : Sl) (p : Pot) : Option Out := match s sl p with
  | some (.nx sl1 p1) => t sl1 p1
  | o => o
def nxS (sl : Sl) (p : Pot) : Option Out := some (.nx sl p)
def bkS (sl : Sl) (p : Pot) : Option Out := some (.bk sl p)
def ctS (sl : Sl) (p : Pot) : Option Out := some (.ct sl p)
theorem cb_nil : CB X [] nxS := PSsimp pss_nil fun D σ H h => by
  obtain ⟨F, O, A, sl, p, out, R, hf, q⟩ := h
  cases hf
  exact q O A σ H R (Tr.refl O H)
theorem cb_one (h : CS X st s) : CB X [st] s := pss_one h
theorem cb_cons (h : CS X st s) (h2 : CB X rest t) : CB X (st :: rest) (seqS s t) := PSsimp (pss_cons h h2) fun D σ H h => by
  obtain ⟨F, O, A, sl, p, out, R, hf, q⟩ := h
  unfold seqS at hf
  split at hf
  · rename_i sl1 p1 e1
    exact ⟨F, O, A, sl, p, _, R, e1, fun O' A' σ' H' R' T => ⟨F, O', A', sl1, p1, out, R', hf, q.tr T⟩⟩
  · rename_i o ne
    refine ⟨F, O, A, sl, p, out, R, hf, ?_⟩
    cases out with
    | nx sl1 p1 => exact absurd hf (ne sl1 p1)
    | bk _ _ => exact q
    | ct _ _ => exact q
    | rt _ _ => exact q
theorem cs_pass : CS X (.Pass pos) nxS := PSimp ps_pass fun D σ H h => by
  obtain ⟨F, O, A, sl, p, out, R, hf, q⟩ := h
  cases hf
  exact q O A σ H R (Tr.refl O H)
theorem cs_break : CS X (.Break pos) bkS := PSimp ps_break fun D σ H h => by
  obtain ⟨F, O, A, sl, p, out, R, hf, q⟩ := h
  cases hf
  exact q O A σ H R (Tr.refl O H)
theorem cs_continue : CS X (.Continue pos) ctS := PSimp ps_continue fun D σ H h => by
  obtain ⟨F, O, A, sl, p, out, R, hf, q⟩ := h
  cases hf
  exact q O A σ H R (Tr.refl O H)
/-- code that is never come to -/
def noS (_ : Sl) (_ : Pot) : Option Out := none
theorem cs_never : CS X st noS := PSimp ps_never fun D σ H h => by
  obtain ⟨F, O, A, sl, p, out, R, hf, q⟩ := h
  cases hf
/-- x = e -/
def setS (i : Nat) (f : Ev) (sl : Sl) (p : Pot) : Option Out := match f sl p with
  | some (val, p1) => (asg i val sl).map fun sl' => .nx sl' p1
  | none => none
theorem cs_set (i : Nat) {pos' : Pos} (hN : X.N.Nodup) (he : CE X e f) (hi : X.N[i]? = some x := by rfl) (hx : Loc X.env.scope x := by first | exact Or.inl rfl | exact Or.inr rfl) (hs : swapsWith e (some (.Name x pos')) pos.line X.env = pure false := by rfl)
    (hf : X.fn x = true ∨ X.env.scope.names.lookup x = some .local := by first | exact .inl rfl | exact .inr rfl) : CS X (.Assign [.Name x pos'] e pos) (setS i f) := PSimp (ps_set hN hi hx he hs hf) fun D σ H h => by
  obtain ⟨F, O, A, sl, p, out, R, hf, q⟩ := h
  unfold setS at hf
  split at hf
  · rename_i val p1 e1
    obtain ⟨sl', e2, rfl⟩ := Option.map_eq_some_iff.mp hf
    refine tE.get R e1 fun v H1 x1 r1 => ?_
    obtain ⟨O', A', R', T⟩ := asg_ok R x1 r1 e2
    exact q O' A' _ H1 R' T
  · cases hf
/-- e; -/
def dropS (f : Ev) (sl : Sl) (p : Pot) : Option Out := match f sl p with
  | some (_, p1) => some (.nx sl p1)
  | none => none
theorem cs_expr (he : CE X e f) (hs : swapsWith e none pos.line X.env = pure false := by rfl) : CS X (.Expr e pos) (dropS f) := PSimp (ps_expr he hs) fun D σ H h => by
  obtain ⟨F, O, A, sl, p, out, R, hf, q⟩ := h
  unfold dropS at hf
  split at hf
  · rename_i val p1 e1
    cases hf
    exact tE.get R e1 fun v H1 x1 r1 => q O A σ H1 (R.exp x1) (R.tr x1)
  · cases hf
/-- return e -/
def retV : Val → Val
  | .sh d => .sh d
  | .bo d => .sh d
  | .fr c => .fr c
  | .ow _ c => .fr c
  | .is c => .sh c
  | .pot => .pot
def retS (f : Ev) (sl : Sl) (p : Pot) : Option Out := match f sl p with
  | some (val, p1) => some (.rt (retV val) p1)
  | none => none
theorem ret_ok {K : Fg} {F : Fc} {O : Pred} {A : Nat → Addr} {sl : Sl} {p p' : Pot} {σ : L2.St} {H H' : Hp} {v : V} {val : Val} (R : Rl K F O A sl p σ H) (x : Ex F H H' p') (r : VR K F O A sl H H' v val) : RetR K F (retV val) v H' p' := by
  have R' := R.exp x
  refine ⟨R'.ext, x.pot, ?_⟩
  have cm : ∀ b y, ¬ O b → H' b = some y → ¬ F.Oc b ∧ H' b = some y := fun b y n e => ⟨fun h => n (R.cur b h), e⟩
  have bm : ∀ b y, ¬ Ob O A sl b → H' b = some y → ¬ F.Oc b ∧ H' b = some y := fun b y n e => ⟨fun h => n (R.boOc b h), e⟩
  cases val with
  | sh d => exact RD.map cm r
  | bo d => exact RD.map bm r
  | fr c =>
    obtain ⟨q, e, n, rc⟩ := r
    exact ⟨q, e, R.h0 n, rc.map (fun b y nb e => ⟨fun h => nb (h.elim (fun z => .inl (R.cur b z)) .inr), e⟩) fun _ h => h⟩
  | ow i c =>
    obtain ⟨e, ei⟩ := r
    obtain ⟨_, rc, o, z⟩ := R'.slot i _ ei
    exact ⟨_, e, z, rc.map (fun b y nb e => ⟨fun h => nb (h.elim (R.cur b) fun w => by rw [w]; exact o), e⟩) fun _ h => h⟩
  | is c =>
    obtain ⟨q, e, n, t, rd⟩ := r
    exact RD.map cm rd
  | pot => exact r
theorem cs_ret (he : CE X e f) : CS X (.Return (some e) pos) (retS f) := PSimp (ps_ret he) fun D σ H h => by
  obtain ⟨F, O, A, sl, p, out, R, hf, q⟩ := h
  unfold retS at hf
  split at hf
  · rename_i val p1 e1
    cases hf
    exact tE.get R e1 fun v H1 x1 r1 => q v H1 (ret_ok R x1 r1)
  · cases hf
/-- if -/
def iteS (fc : Ev) (s t : Sm) (sl : Sl) (p : Pot) : Option Out := match fc sl p with
  | some (.sh (.bool true), p1) => s sl p1
  | some (.sh (.bool false), p1) => t sl p1
  | _ => none
theorem cs_if (hc : CT X c fc) (ha : CB X bd s) (hb : CB X el t) : CS X (.If c bd el pos) (iteS fc s t) := PSimp (ps_if hc ha hb) fun D σ H h => by
  obtain ⟨F, O, A, sl, p, out, R, hf, q⟩ := h
  unfold iteS at hf
  split at hf
  · rename_i p1 e1
    exact ⟨F, O, A, sl, p, true, p1, R, e1, fun H1 x1 => iteT ⟨F, O, A, sl, p1, out, R.exp x1, hf, q.tr (R.tr x1)⟩⟩
  · rename_i p1 e1
    exact ⟨F, O, A, sl, p, false, p1, R, e1, fun H1 x1 => iteF ⟨F, O, A, sl, p1, out, R.exp x1, hf, q.tr (R.tr x1)⟩⟩
  · cases hf
end
end Pu
namespace Pu
open PySem PySem.Spec PyProof.Rows L2

/-! ### while -/
def whileN (c : Ev) (s : Sm) : Nat → Sm
  | 0, _, _ => none
  | n + 1, sl, p => match c sl p with
    | some (.sh (.bool true), p1) => (match s sl p1 with
      | some (.nx sl2 p2) => whileN c s n sl2 p2
      | some (.ct sl2 p2) => whileN c s n sl2 p2
      | some (.bk sl2 p2) => some (.nx sl2 p2)
      | some (.rt v p2) => some (.rt v p2)
      | none => none)
    | some (.sh (.bool false), p1) => some (.nx sl p1)
    | _ => none
theorem whileN_succ {c : Ev} {s : Sm} : ∀ {n : Nat} {sl : Sl} {p : Pot} {o : Out}, whileN c s n sl p = some o → whileN c s (n + 1) sl p = some o
  | 0, _, _, _, h => by cases h
  | n + 1, sl, p, o, h => by
    unfold whileN at h ⊢
    split at h
    · rename_i p1 e1
      split at h
      · rename_i sl2 p2 e2
        exact whileN_succ h
      · rename_i sl2 p2 e2
        exact whileN_succ h
      · exact h
      · exact h
      · cases h
    · exact h
    · cases h
theorem whileN_le {c : Ev} {s : Sm} {n m : Nat} {sl : Sl} {p : Pot} {o : Out} (h : n ≤ m) (e : whileN c s n sl p = some o) : whileN c s m sl p = some o := by
  induction h with
  | refl => exact e
  | step _ ih => exact whileN_succ ih
open Classical in
noncomputable def whileS (c : Ev) (s : Sm) (sl : Sl) (p : Pot) : Option Out := if h : ∃ n, (whileN c s n sl p).isSome = true then whileN c s (choose h) sl p else none
theorem whileS_of {c : Ev} {s : Sm} {n : Nat} {sl : Sl} {p : Pot} {o : Out} (e : whileN c s n sl p = some o) : whileS c s sl p = some o := by
  unfold whileS
  have h : ∃ n, (whileN c s n sl p).isSome = true := ⟨n, by rw [e]; rfl⟩
  rw [dif_pos h]
  obtain ⟨o', e'⟩ := Option.isSome_iff_exists.mp (Classical.choose_spec h)
  rw [e']
  have a := whileN_le (Nat.le_max_left n (Classical.choose h)) e
  have b := whileN_le (Nat.le_max_right n (Classical.choose h)) e'
  rw [a] at b
  exact b.symm
theorem whileS_get {c : Ev} {s : Sm} {sl : Sl} {p : Pot} {o : Out} (e : whileS c s sl p = some o) : ∃ n, whileN c s n sl p = some o := by
  unfold whileS at e
  split at e
  · exact ⟨_, e⟩
  · cases e
/-- one turn of a while -/
theorem whileS_eq (c : Ev) (s : Sm) (sl : Sl) (p : Pot) : whileS c s sl p = (match c sl p with
    | some (.sh (.bool true), p1) => (match s sl p1 with
      | some (.nx sl2 p2) => whileS c s sl2 p2
      | some (.ct sl2 p2) => whileS c s sl2 p2
      | some (.bk sl2 p2) => some (.nx sl2 p2)
      | some (.rt v p2) => some (.rt v p2)
      | none => none)
    | some (.sh (.bool false), p1) => some (.nx sl p1)
    | _ => none) := by
  cases hL : whileS c s sl p with
  | some o =>
    obtain ⟨n, e⟩ := whileS_get hL
    cases n with
    | zero => cases e
    | succ n =>
      unfold whileN at e
      split at e
      · rename_i p1 e1
        split at e
        · rename_i sl2 p2 e2
          exact (whileS_of e).symm
        · rename_i sl2 p2 e2
          exact (whileS_of e).symm
        · rename_i sl2 p2 e2; exact e.symm
        · rename_i v p2 e2; exact e.symm
        · cases e
      · exact e.symm
      · cases e
  | none =>
    have no : ∀ n o, whileN c s n sl p ≠ some o := fun n o e => by rw [whileS_of e] at hL; cases hL
    split
    · rename_i p1 e1
      split
      · rename_i sl2 p2 e2
        cases hr : whileS c s sl2 p2 with
        | none => rfl
        | some o =>
          obtain ⟨n, e⟩ := whileS_get hr
          exact absurd (by unfold whileN; simp only [e1, e2]; exact e) (no (n + 1) o)
      · rename_i sl2 p2 e2
        cases hr : whileS c s sl2 p2 with
        | none => rfl
        | some o =>
          obtain ⟨n, e⟩ := whileS_get hr
          exact absurd (by unfold whileN; simp only [e1, e2]; exact e) (no (n + 1) o)
      · rename_i sl2 p2 e2
        exact absurd (by unfold whileN; simp only [e1, e2]) (no 1 (.nx sl2 p2))
      · rename_i v p2 e2
        exact absurd (by unfold whileN; simp only [e1, e2]) (no 1 (.rt v p2))
      · rfl
    · rename_i p1 e1
      exact absurd (by unfold whileN; simp only [e1]) (no 1 (.nx sl p1))
    · rfl
section
variable {X : Cx} {c e : Expr} {fc f : Ev} {pos : Pos} {bd : List Stmt} {s : Sm}
theorem cs_while (hp : PassesOwn (model X.prog X.w) X.A X.env X.xe) (hc : CT X c fc) (hb : CB X bd s) : CS X (.While c bd [] pos) (whileS fc s) := PSimp (ps_while hp hc hb) fun D σ H h => by
  obtain ⟨F, O, A, sl, p, out, R, hf, q⟩ := h
  obtain ⟨n, e⟩ := whileS_get hf
  refine ⟨fun m σ' H' => ∃ O' A' sl' p', Rl X.K F O' A' sl' p' σ' H' ∧ Tr O H O' H' ∧ whileN fc s m sl' p' = some out, ⟨n, O, A, sl, p, R, Tr.refl O H, e⟩, ?_⟩
  rintro m σ1 H1 ⟨O1, A1, sl1, p1, R1, T1, e1⟩
  cases m with
  | zero => cases e1
  | succ m =>
    unfold whileN at e1
    split at e1
    · rename_i p2 ec
      refine ⟨F, O1, A1, sl1, p1, true, p2, R1, ec, fun H2 x2 => iteT ?_⟩
      have T2 := T1.trans (R1.tr x2)
      refine ⟨fun σ' H' => ∃ O' A' sl' p', Rl X.K F O' A' sl' p' σ' H' ∧ Tr O H O' H' ∧ whileN fc s m sl' p' = some out, fun σ' H' hN => ⟨m, Nat.lt_succ_self m, hN⟩, ?_⟩
      split at e1
      · rename_i sl2 p3 es
        exact ⟨F, O1, A1, sl1, p2, _, R1.exp x2, es, fun O' A' σ' H' R' T' => ⟨O', A', sl2, p3, R', T2.trans T', e1⟩⟩
      · rename_i sl2 p3 es
        exact ⟨F, O1, A1, sl1, p2, _, R1.exp x2, es, fun O' A' σ' H' R' T' => ⟨O', A', sl2, p3, R', T2.trans T', e1⟩⟩
      · rename_i sl2 p3 es
        cases e1
        exact ⟨F, O1, A1, sl1, p2, _, R1.exp x2, es, fun O' A' σ' H' R' T' => q O' A' σ' H' R' (T2.trans T')⟩
      · rename_i v p3 es
        cases e1
        exact ⟨F, O1, A1, sl1, p2, _, R1.exp x2, es, q⟩
      · cases e1
    · rename_i p2 ec
      cases e1
      exact ⟨F, O1, A1, sl1, p1, false, p2, R1, ec, fun H2 x2 => iteF (q O1 A1 σ1 H2 (R1.exp x2) (T1.trans (R1.tr x2)))⟩
    · cases e1
end

/-! ### targets -/
inductive Tg where
  | nm (i : Nat) | tp (ts : List Tg)
mutual
def asgD : Tg → PyData → Sl → Option Sl
  | .nm i, d, sl => if i < sl.length then some (sl.set i (.sh d)) else none
  | .tp ts, .tuple ds, sl => asgDs ts ds sl
  | .tp _, _, _ => none
def asgDs : List Tg → List PyData → Sl → Option Sl
  | [], [], sl => some sl
  | t :: ts, d :: ds, sl => (match asgD t d sl with
    | some sl1 => asgDs ts ds sl1
    | none => none)
  | _, _, _ => none
end
mutual
/-- the slots that a target names -/
def Tg.ix : Tg → List Nat
  | .nm i => [i]
  | .tp ts => ixs ts
def ixs : List Tg → List Nat
  | [] => []
  | t :: ts => Tg.ix t ++ ixs ts
end
/-- alike but for these slots -/
def Ag (is : List Nat) (σ σ' : L2.St) : Prop := σ'.length = σ.length ∧ ∀ i, i ∉ is → σ'[i]? = σ[i]?
theorem Ag.trans {is js : List Nat} {σ σ1 σ2 : L2.St} (a : Ag is σ σ1) (b : Ag js σ1 σ2) : Ag (is ++ js) σ σ2 := ⟨b.1.trans a.1, fun i h => by
  rw [List.mem_append, not_or] at h
  exact (b.2 i h.2).trans (a.2 i h.1)⟩
def tG (K : Fg) (t : Tg) : TG := fun v σ H Q => ∃ F O A sl p d sl', Rl K F O A sl p σ H ∧ RD K O H d v ∧ asgD t d sl = some sl' ∧ ∀ σ', Rl K F O A sl' p σ' H → Ag t.ix σ σ' → Q σ' H
def tGs (K : Fg) (ts : List Tg) : TGs := fun vs σ H Q => ∃ F O A sl p ds sl', Rl K F O A sl p σ H ∧ RDs K O H ds vs ∧ asgDs ts ds sl = some sl' ∧ ∀ σ', Rl K F O A sl' p σ' H → Ag (ixs ts) σ σ' → Q σ' H
abbrev CG (X : Cx) (e : Expr) (t : Tg) : Prop := PG X e (tG X.K t)
abbrev CGs (X : Cx) (es : List Expr) (ts : List Tg) : Prop := PGs X es (tGs X.K ts)
theorem PGimp {X : Cx} {e : Expr} {t t' : TG} (h : PG X e t) (i : ∀ v σ H Q, t' v σ H Q → t v σ H Q) : PG X e t' := ⟨fun pins s σ H v u Q I r w => h.run pins s σ H v u Q I r (i v σ H Q w)⟩
theorem PGsimp {X : Cx} {e : List Expr} {t t' : TGs} (h : PGs X e t) (i : ∀ v σ H Q, t' v σ H Q → t v σ H Q) : PGs X e t' := ⟨fun pins s σ H v u Q I r w => h.run pins s σ H v u Q I r (i v σ H Q w)⟩
section
variable {X : Cx} {pos : Pos} {x : Str} {e : Expr} {es : List Expr} {t : Tg} {ts : List Tg}
theorem cg_nm (i : Nat) (hN : X.N.Nodup) (hi : X.N[i]? = some x := by rfl) (hx : Loc X.env.scope x := by first | exact Or.inl rfl | exact Or.inr rfl) (hf : X.fn x = true ∨ X.env.scope.names.lookup x = some .local := by first | exact .inl rfl | exact .inr rfl) : CG X (.Name x pos) (.nm i) :=
  PGimp (pg_name hN hi hx hf) fun v σ H Q h => by
    obtain ⟨F, O, A, sl, p, d, sl', R, r, hf, q⟩ := h
    simp only [asgD] at hf
    split at hf
    · rename_i hl
      cases hf
      exact q _ (R.setSh hl r) ⟨by simp, fun j hj => List.getElem?_set_ne fun z => hj (by simp [Tg.ix, z])⟩
    · cases hf
theorem cgs_nil : CGs X [] [] := PGsimp pgs_nil fun v σ H Q h => by
  obtain ⟨F, O, A, sl, p, ds, sl', R, r, hf, q⟩ := h
  cases ds with
  | nil =>
    simp only [asgDs] at hf
    cases hf
    exact ⟨RDs.nil_iff.mp r, q σ R ⟨rfl, fun _ _ => rfl⟩⟩
  | cons d ds => simp only [asgDs] at hf; cases hf
theorem cgs_cons (h : CG X e t) (h2 : CGs X es ts) (hs : (assignEach (e :: es) X.env).map (·.2) = assign e X.env :: (assignEach es X.env).map (·.2) := by rfl) : CGs X (e :: es) (t :: ts) := PGsimp (pgs_cons h h2 hs) fun v σ H Q h => by
  obtain ⟨F, O, A, sl, p, ds, sl', R, r, hf, q⟩ := h
  cases ds with
  | nil => simp only [asgDs] at hf; cases hf
  | cons d ds =>
    simp only [asgDs] at hf
    split at hf
    · rename_i sl1 e1
      simp only [RDs] at r
      obtain ⟨u, us, rfl, r1, r2⟩ := r
      exact ⟨u, us, rfl, F, O, A, sl, p, d, sl1, R, r1, e1, fun σ1 R1 g1 => ⟨F, O, A, sl1, p, ds, sl', R1, r2, hf, fun σ2 R2 g2 => q σ2 R2 (by simp only [ixs]; exact g1.trans g2)⟩⟩
    · cases hf
theorem asgDs_len : ∀ {ts : List Tg} {ds : List PyData} {sl sl' : Sl}, asgDs ts ds sl = some sl' → ds.length = ts.length
  | [], [], _, _, _ => rfl
  | t :: ts, d :: ds, _, _, h => by
    simp only [asgDs] at h
    split at h
    · simp [asgDs_len h]
    · cases h
  | [], _ :: _, _, _, h => by simp only [asgDs] at h; cases h
  | _ :: _, [], _, _, h => by simp only [asgDs] at h; cases h
theorem cg_tp {k : Nat} (hc : X.calm = true) (h : CGs X es ts) (hl : (assignEach es X.env).length = ts.length := by rfl) (hst : (assignEach es X.env).findIdx? (·.1) = none := by rfl) : CG X (.Tuple es k pos) (.tp ts) :=
  PGimp (pg_tup hc h hl hst) fun v σ H Q h => by
    obtain ⟨F, O, A, sl, p, d, sl', R, r, hf, q⟩ := h
    cases d with
    | tuple ds =>
      simp only [asgD] at hf
      simp only [RD] at r
      obtain ⟨a, vs, rfl, ha, rs⟩ := r
      exact ⟨a, vs, rfl, ha.elim (fun z => SqT.of z.2) .inr, by rw [rs.length, asgDs_len hf], F, O, A, sl, p, ds, sl', R, rs, hf, fun σ2 R2 g2 => q σ2 R2 (by simp only [Tg.ix]; exact g2)⟩
    | _ => simp only [asgD] at hf; cases hf
end

/-! ### what is walked -/
/-- J yields the data ds, wherever P holds -/
structure Goes (K : Fg) (P : Pred → Hp → Prop) (J : It) (ds : List PyData) : Prop where
  go : ∀ i O H, P O H → i < ds.length → J.go i H
  yld : ∀ i O H x H', P O H → i < ds.length → J.yld i H x H' → ∃ d, ds[i]? = some d ∧ (∀ b y, H b = some y → H' b = some y) ∧ RD K O H' d x
  stop : ∀ i O H, P O H → ds.length ≤ i → J.stop i H
/-- .. behind (O, H), by statements -/
def PTr (O : Pred) (H : Hp) : Pred → Hp → Prop := fun O' H' => Tr O H O' H' ∧ ∀ b, O' b → H' b ≠ none
/-- .. by expressions -/
def PEx (F : Fc) (O : Pred) (H : Hp) : Pred → Hp → Prop := fun O' H' => O' = O ∧ (∃ p, Ex F H H' p) ∧ ∀ b, O' b → H' b ≠ none
section
variable {K : Fg} {P : Pred → Hp → Prop}
theorem goes_list {a : Addr} {vs : List V} {ds : List PyData} (h : ∀ O H, P O H → H a = some (.lst vs) ∧ RDs K O H ds vs) : Goes K P (Itl K a) ds where
  go := fun i O H hp hi => by
    obtain ⟨h1, h2⟩ := h O H hp
    have hv : i < vs.length := by rw [h2.length]; exact hi
    exact ⟨vs, vs[i], SqL.of h1, by simp [hv]⟩
  yld := fun i O H x H' hp hi hy => by
    obtain ⟨h1, h2⟩ := h O H hp
    obtain ⟨rfl, f⟩ := hy
    obtain ⟨d, e, r⟩ := h2.get' (f vs (SqL.of h1))
    exact ⟨d, e, fun _ _ z => z, r⟩
  stop := fun i O H hp hi => by
    obtain ⟨h1, h2⟩ := h O H hp
    exact ⟨vs, SqL.of h1, by rw [h2.length]; exact hi⟩
theorem goes_tup {a : Addr} {vs : List V} {ds : List PyData} (h : ∀ O H, P O H → SqT K H a vs ∧ RDs K O H ds vs) : Goes K P (Itt K a) ds where
  go := fun i O H hp hi => by
    obtain ⟨h1, h2⟩ := h O H hp
    have hv : i < vs.length := by rw [h2.length]; exact hi
    exact ⟨vs, vs[i], h1, by simp [hv]⟩
  yld := fun i O H x H' hp hi hy => by
    obtain ⟨h1, h2⟩ := h O H hp
    obtain ⟨rfl, f⟩ := hy
    obtain ⟨d, e, r⟩ := h2.get' (f vs h1)
    exact ⟨d, e, fun _ _ z => z, r⟩
  stop := fun i O H hp hi => by
    obtain ⟨h1, h2⟩ := h O H hp
    exact ⟨vs, h1, by rw [h2.length]; exact hi⟩
/-- lo, lo + 1, .. -/
def rangeD (lo : Int) (n : Nat) : List PyData := (List.range n).map fun i => .int (lo + (i : Nat))
theorem rangeD_len {lo : Int} {n : Nat} : (rangeD lo n).length = n := by simp [rangeD]
theorem goes_range {lo : Int} {n : Nat} : Goes K P (Itr lo n) (rangeD lo n) where
  go := fun i O H hp hi => by rw [rangeD_len] at hi; exact hi
  yld := fun i O H x H' hp hi hy => by
    obtain ⟨rfl, rfl⟩ := hy
    rw [rangeD_len] at hi
    refine ⟨.int (lo + (i : Nat)), ?_, fun _ _ z => z, by simp only [RD]⟩
    simp [rangeD, hi]
  stop := fun i O H hp hi => by rw [rangeD_len] at hi; exact hi
/-- a text's signs -/
def charsD (z : Str) : List PyData := z.cps.toList.map fun c => .str ⟨#[c]⟩
theorem charsD_len {z : Str} : (charsD z).length = z.cps.size := by simp [charsD]
theorem goes_str {z : Str} : Goes K P (Its z) (charsD z) where
  go := fun i O H hp hi => by rw [charsD_len] at hi; exact hi
  yld := fun i O H x H' hp hi hy => by
    obtain ⟨rfl, c, hc, rfl⟩ := hy
    refine ⟨.str ⟨#[c]⟩, ?_, fun _ _ z => z, by simp only [RD]⟩
    have : z.cps.toList[i]? = some c := by simpa using hc
    simp only [charsD, List.getElem?_map, this, Option.map_some]
  stop := fun i O H hp hi => by rw [charsD_len] at hi; exact hi
/-- (i, x) -/
def enumD (ds : List PyData) : List PyData := ds.zipIdx.map fun x => .tuple [.int (x.2 : Nat), x.1]
theorem enumD_len {ds : List PyData} : (enumD ds).length = ds.length := by simp [enumD]
theorem newTupRD {O : Pred} {H : Hp} {T : Addr} {ds : List PyData} {vs : List V} (hO : ∀ b, O b → H b ≠ none) (n : H T = none) (r : RDs K O H ds vs) : RD K O (upd H T (.tup vs)) (.tuple ds) (.ref T) := by
  simp only [RD]
  exact ⟨T, vs, rfl, .inl ⟨fun z => hO T z n, upd_same⟩, r.map fun b x nb e => ⟨nb, by rw [upd_ne (ne_of_none e n)]; exact e⟩⟩
theorem goes_enum {a : Addr} {vs : List V} {ds : List PyData} (h : ∀ O H, P O H → H a = some (.lst vs) ∧ RDs K O H ds vs ∧ ∀ b, O b → H b ≠ none) : Goes K P (Ite K a) (enumD ds) where
  go := fun i O H hp hi => by
    obtain ⟨h1, h2, _⟩ := h O H hp
    rw [enumD_len] at hi
    have hv : i < vs.length := by rw [h2.length]; exact hi
    exact ⟨vs, vs[i], SqL.of h1, by simp [hv]⟩
  yld := fun i O H x H' hp hi hy => by
    obtain ⟨h1, h2, h3⟩ := h O H hp
    obtain ⟨T, u, rfl, n, rfl, f⟩ := hy
    obtain ⟨d, e, r⟩ := h2.get' (f vs (SqL.of h1))
    refine ⟨.tuple [.int (i : Nat), d], ?_, fun b y z => by rw [upd_ne (ne_of_none z n)]; exact z, newTupRD h3 n (.cons (by simp only [RD]) (.cons r .nil))⟩
    simp [enumD, e]
  stop := fun i O H hp hi => by
    obtain ⟨h1, h2, _⟩ := h O H hp
    rw [enumD_len] at hi
    exact ⟨vs, SqL.of h1, by rw [h2.length]; exact hi⟩
/-- (x, y) -/
def zipD (ds es : List PyData) : List PyData := (ds.zip es).map fun x => .tuple [x.1, x.2]
theorem zipD_len {ds es : List PyData} : (zipD ds es).length = min ds.length es.length := by simp [zipD]
theorem goes_zip {a b : Addr} {vs us : List V} {ds es : List PyData} (h : ∀ O H, P O H → SqL K H a vs ∧ SqL K H b us ∧ RDs K O H ds vs ∧ RDs K O H es us ∧ ∀ b, O b → H b ≠ none) : Goes K P (Itz K a b) (zipD ds es) where
  go := fun i O H hp hi => by
    obtain ⟨h1, h1', h2, h2', _⟩ := h O H hp
    rw [zipD_len] at hi
    have hv : i < vs.length := by rw [h2.length]; omega
    have hu : i < us.length := by rw [h2'.length]; omega
    exact ⟨vs, us, vs[i], us[i], h1, h1', by simp [hv], by simp [hu]⟩
  yld := fun i O H x H' hp hi hy => by
    obtain ⟨h1, h1', h2, h2', h3⟩ := h O H hp
    obtain ⟨T, u, u', rfl, n, rfl, f, f'⟩ := hy
    obtain ⟨d, e, r⟩ := h2.get' (f vs h1)
    obtain ⟨d', e', r'⟩ := h2'.get' (f' us h1')
    refine ⟨.tuple [d, d'], ?_, fun b y z => by rw [upd_ne (ne_of_none z n)]; exact z, newTupRD h3 n (.cons r (.cons r' .nil))⟩
    have ez : (ds.zip es)[i]? = some (d, d') := List.getElem?_zip_eq_some.mpr ⟨e, e'⟩
    simp only [zipD, List.getElem?_map, ez, Option.map_some]
  stop := fun i O H hp hi => by
    obtain ⟨h1, h1', h2, h2', _⟩ := h O H hp
    rw [zipD_len] at hi
    exact ⟨vs, us, h1, h1', by rw [h2.length, h2'.length]; omega⟩
end

/-! ### for -/
def forL (t : Tg) (s : Sm) : List PyData → Sm
  | [], sl, p => some (.nx sl p)
  | d :: ds, sl, p => match asgD t d sl with
    | some sl1 => (match s sl1 p with
      | some (.nx sl2 p2) => forL t s ds sl2 p2
      | some (.ct sl2 p2) => forL t s ds sl2 p2
      | some (.bk sl2 p2) => some (.nx sl2 p2)
      | some (.rt v p2) => some (.rt v p2)
      | none => none)
    | none => none
/-- the data that are walked, the slots behind the iterable's reckoning -/
abbrev Iv := Sl → Pot → Option (List PyData × Sl × Pot)
def forS (t : Tg) (g : Iv) (s : Sm) (sl : Sl) (p : Pot) : Option Out := match g sl p with
  | some (ds, sl1, p1) => forL t s ds sl1 p1
  | none => none
def tI (K : Fg) (g : Iv) : TI := fun σ H R => ∃ F O A sl p ds sl' p', Rl K F O A sl p σ H ∧ g sl p = some (ds, sl', p') ∧ ∀ J O' A' H', Rl K F O' A' sl' p' σ H' → Tr O H O' H' → Goes K (PTr O' H') J ds → R J H'
abbrev CI (X : Cx) (tg iter : Expr) (g : Iv) : Prop := PI X tg iter (tI X.K g)
theorem PIimp {X : Cx} {tg e : Expr} {t t' : TI} (h : PI X tg e t) (i : ∀ σ H Q, t' σ H Q → t σ H Q) : PI X tg e t' := ⟨fun pins s σ H Q I w => h.run pins s σ H Q I (i σ H Q w)⟩
section
variable {X : Cx} {tg iter : Expr} {t : Tg} {g : Iv} {s : Sm} {bd : List Stmt} {pos : Pos}
theorem cs_for (hp : PassesOwn (model X.prog X.w) X.A X.env X.xe) (hc : X.calm = true) (hi : CI X tg iter g) (hg : CG X tg t) (hb : CB X bd s)
    (hs : ∀ x, foldedSetIterable iter X.env x = pure x := by intro _; rfl) : CS X (.For tg iter bd [] pos) (forS t g s) := PSimp (ps_for hp hc hi hg hb hs) fun D σ H h => by
  obtain ⟨F, O, A, sl, p, out, R, hf, q⟩ := h
  unfold forS at hf
  split at hf
  · rename_i ds sl1 p1 e1
    refine ⟨F, O, A, sl, p, ds, sl1, p1, R, e1, fun J O1 A1 H1 R1 T1 G => ?_⟩
    refine ⟨fun i m σ' H' => m = ds.length - i ∧ i ≤ ds.length ∧ ∃ O' A' sl' p', Rl X.K F O' A' sl' p' σ' H' ∧ Tr O1 H1 O' H' ∧ forL t s (ds.drop i) sl' p' = some out,
      ⟨ds.length, by simp, Nat.zero_le _, O1, A1, sl1, p1, R1, Tr.refl O1 H1, by simpa using hf⟩, ?_⟩
    rintro i m σ2 H2 ⟨rfl, hi2, O2, A2, sl2, p2, R2, T2, e2⟩
    have P2 : PTr O1 H1 O2 H2 := ⟨T2, R2.dom⟩
    by_cases hlt : i < ds.length
    · refine .inr ⟨G.go i O2 H2 P2 hlt, fun σ' H' => ∃ O' A' sl' p', Rl X.K F O' A' sl' p' σ' H' ∧ Tr O1 H1 O' H' ∧ forL t s (ds.drop (i + 1)) sl' p' = some out,
        fun σ' H' hN => ⟨ds.length - (i + 1), by omega, rfl, hlt, hN⟩, fun x H3 hy => ?_⟩
      obtain ⟨d, ed, k3, r3⟩ := G.yld i O2 H2 x H3 P2 hlt hy
      have x3 : Ex F H2 H3 p2 := ⟨fun b y _ e => k3 b y e, k3 _ _ R2.pot⟩
      have R3 := R2.exp x3
      have T3 := T2.trans (R2.tr x3)
      rw [List.drop_eq_getElem_cons hlt] at e2
      have e4 : ds[i] = d := by
        rw [List.getElem?_eq_getElem hlt] at ed
        exact Option.some.inj ed
      rw [e4] at e2
      unfold forL at e2
      split at e2
      · rename_i sl4 e5
        refine ⟨F, O2, A2, sl2, p2, d, sl4, R3, r3, e5, fun σ4 R4 _ => ?_⟩
        split at e2
        · rename_i sl5 p5 e6
          exact ⟨F, O2, A2, sl4, p2, _, R4, e6, fun O' A' σ' H' R' T' => ⟨O', A', sl5, p5, R', T3.trans T', e2⟩⟩
        · rename_i sl5 p5 e6
          exact ⟨F, O2, A2, sl4, p2, _, R4, e6, fun O' A' σ' H' R' T' => ⟨O', A', sl5, p5, R', T3.trans T', e2⟩⟩
        · rename_i sl5 p5 e6
          cases e2
          exact ⟨F, O2, A2, sl4, p2, _, R4, e6, fun O' A' σ' H' R' T' => q O' A' σ' H' R' (T1.trans (T3.trans T'))⟩
        · rename_i v p5 e6
          cases e2
          exact ⟨F, O2, A2, sl4, p2, _, R4, e6, q⟩
        · cases e2
      · cases e2
    · have ei : i = ds.length := by omega
      subst ei
      rw [List.drop_length] at e2
      simp only [forL] at e2
      cases e2
      exact .inl ⟨G.stop _ O2 H2 P2 (Nat.le_refl _), q O2 A2 σ2 H2 R2 (T1.trans T2)⟩
  · cases hf
end
end Pu
namespace Pu
open PySem PySem.Spec PyProof.Rows L2

/-! ### iterables, ahead of statements -/
/-- the slots where the value is to stay as it is -/
def calm (v : Val) (sl : Sl) : Sl := match v with
  | .ow i _ => frz1 i sl
  | .bo d => if flat d = true then sl else sl.map frzS
  | _ => sl
section
variable {K : Fg} {F : Fc} {O : Pred} {A : Nat → Addr} {sl : Sl} {p p' : Pot} {σ : L2.St} {H H' : Hp}
theorem calm_ok {v : V} {val : Val} {d : PyData} {c : Bool} (R : Rl K F O A sl p σ H) (R' : Rl K F O A sl p' σ H') (h : VR K F O A sl H H' v val) (e : val.dat = some (d, c)) :
    ∃ O', Rl K F O' A (calm val sl) p' σ H' ∧ RD K O' H' d v ∧ ∀ b, O' b → O b := by
  cases val with
  | sh d' => cases e; exact ⟨O, R', h, fun _ h => h⟩
  | fr c' => exact ⟨O, R', by have := h.dat R R' e; cases e; exact this, fun _ h => h⟩
  | is c' => exact ⟨O, R', by have := h.dat R R' e; cases e; exact this, fun _ h => h⟩
  | pot => cases e
  | bo d' =>
    cases e
    unfold calm
    dsimp only
    split
    · rename_i f
      exact ⟨O, R', RD.flat f h, fun _ h => h⟩
    · exact ⟨_, R'.frzAll, h, fun _ h => h.1⟩
  | ow i c' =>
    cases e
    obtain ⟨rfl, ei⟩ := h
    have q := R'.slot i _ ei
    refine ⟨_, R'.frz1 ei rfl, ?_, fun _ h => h.1⟩
    exact RC.rd (q.2.1.map (fun b x n e => ⟨fun h => n h.1, e⟩) fun _ h => h) fun h => h.2 rfl
end
def seqD : PyData → Option (List PyData)
  | .list ds => some ds
  | .tuple ds => some ds
  | .str z => some (charsD z)
  | _ => none
/-- for x in e -/
def itV (f : Ev) (sl : Sl) (p : Pot) : Option (List PyData × Sl × Pot) := match f sl p with
  | some (val, p1) => (match val.dat with
    | some (d, _) => (match seqD d with
      | some ds => some (ds, calm val sl, p1)
      | none => none)
    | none => none)
  | none => none
theorem tr_sub {O O' : Pred} {H : Hp} (h : ∀ b, O' b → O b) : Tr O H O' H := ⟨fun _ _ _ e => e, fun b z => .inl (h b z)⟩
theorem PI.or {X : Cx} {tg e : Expr} {t t' : TI} (h : PI X tg e t) (h' : PI X tg e t') : PI X tg e (fun σ H R => t σ H R ∨ t' σ H R) := ⟨fun pins s σ H R I w => w.elim (h.run pins s σ H R I) (h'.run pins s σ H R I)⟩
section
variable {X : Cx} {tg e a b : Expr} {f fa fb : Ev} {es : List Expr} {fs : List Ev} {pos pn tpos : Pos} {elts : List Expr} {kk : Nat}
theorem ci_val (he : CE X e f) : CI X tg e (itV f) := PIimp (PI.or (PI.or (pi_list he) (pi_tup he)) (pi_str he)) fun σ H R0 h => by
  obtain ⟨F, O, A, sl, p, ds, sl', p', R, hf, q⟩ := h
  unfold itV at hf
  split at hf
  · rename_i val p1 e1
    split at hf
    · rename_i d c e2
      split at hf
      · rename_i ds' e3
        cases hf
        have go : ∀ v H1, Ex F H H1 p' → VR X.K F O A sl H H1 v val → ∃ O', Rl X.K F O' A (calm val sl) p' σ H1 ∧ RD X.K O' H1 d v ∧ Tr O H O' H1 := fun v H1 x1 r1 => by
          obtain ⟨O', R', rd, sub⟩ := calm_ok R (R.exp x1) r1 e2
          exact ⟨O', R', rd, (R.tr x1).trans (tr_sub sub)⟩
        cases d with
        | list es =>
          cases e3
          refine .inl (.inl (tE.get R e1 fun v H1 x1 r1 => ?_))
          obtain ⟨O', R', rd, T⟩ := go v H1 x1 r1
          simp only [RD] at rd
          obtain ⟨l, vs, rfl, n, h1, h2⟩ := rd
          refine ⟨l, rfl, ⟨vs, SqL.of h1⟩, q _ O' A H1 R' T (goes_list (vs := vs) fun O2 H2 P2 => ?_)⟩
          exact ⟨P2.1.fr _ _ n h1, h2.map P2.1.map⟩
        | tuple es =>
          cases e3
          refine .inl (.inr (tE.get R e1 fun v H1 x1 r1 => ?_))
          obtain ⟨O', R', rd, T⟩ := go v H1 x1 r1
          simp only [RD] at rd
          obtain ⟨l, vs, rfl, h1, h2⟩ := rd
          have st : ∀ H2 : Hp, (∀ x, ¬ O' l → H1 l = some x → H2 l = some x) → SqT X.K H2 l vs := fun H2 k => h1.elim (fun z => SqT.of (k _ z.1 z.2)) .inr
          refine ⟨l, rfl, ⟨vs, st H1 fun _ _ e => e⟩, q _ O' A H1 R' T (goes_tup (vs := vs) fun O2 H2 P2 => ?_)⟩
          exact ⟨st H2 fun x n e => P2.1.fr _ _ n e, h2.map P2.1.map⟩
        | str z =>
          cases e3
          refine .inr (tE.get R e1 fun v H1 x1 r1 => ?_)
          obtain ⟨O', R', rd, T⟩ := go v H1 x1 r1
          exact ⟨z, rdS rd, q _ O' A H1 R' T goes_str⟩
        | _ => cases e3
      · cases hf
    · cases hf
  · cases hf
/-- range(n), range(a, b) -/
def rng1I (f : Ev) (sl : Sl) (p : Pot) : Option (List PyData × Sl × Pot) := match f sl p with
  | some (.sh (.int j), p1) => if -(2 ^ 62) ≤ j ∧ j < 2 ^ 62 then some (rangeD 0 j.toNat, sl, p1) else none
  | _ => none
def rng2I (fa fb : Ev) (sl : Sl) (p : Pot) : Option (List PyData × Sl × Pot) := match fa sl p with
  | some (.sh (.int i), p1) => (match fb sl p1 with
    | some (.sh (.int j), p2) => if (-(2 ^ 62) ≤ i ∧ i < 2 ^ 62 ∧ -(2 ^ 62) ≤ j ∧ j < 2 ^ 62) then some (rangeD i (j - i).toNat, sl, p2) else none
    | _ => none)
  | _ => none
theorem shI {K : Fg} {F : Fc} {O : Pred} {A : Nat → Addr} {sl : Sl} {H H' : Hp} {v : V} {i : Int} (h : VR K F O A sl H H' v (.sh (.int i))) : v = .int i := rdI (K := K) (O := O) (H := H') h
theorem args1 {f : Ev} {sl : Sl} {p p' : Pot} {x : Val} (h : f sl p = some (x, p')) : argsE [f] sl p = some ([x], p') := by simp [argsE, h]
theorem args2 {f g : Ev} {sl : Sl} {p p1 p' : Pot} {x y : Val} (h : f sl p = some (x, p1)) (h2 : g sl p1 = some (y, p')) : argsE [f, g] sl p = some ([x, y], p') := by simp [argsE, h, h2]
theorem ci_rng1 (hm : X.mg "range" = none) (ha : CE X a fa) (hg : Gl X "range" := by rfl) (hs : starEach [a] X.env = [(false, eval a X.env)] := by rfl) : CI X tg (.Call (.Name "range" pn) [a] [] pos) (rng1I fa) := PIimp (pi_range1 hg hm (ca_cons ha ca_nil hs) hs) fun σ H R0 h => by
  obtain ⟨F, O, A, sl, p, ds, sl', p', R, hf, q⟩ := h
  unfold rng1I at hf
  split at hf
  · rename_i j p1 e1
    split at hf
    · rename_i c
      cases hf
      refine ⟨F, O, A, _, p, _, _, R, args1 e1, fun vs H1 x1 r1 => ?_⟩
      obtain ⟨v, rfl, r⟩ := r1.one
      exact ⟨j, by rw [shI r], c.1, c.2, q _ O A H1 (R.exp x1) (R.tr x1) goes_range⟩
    · cases hf
  · cases hf
theorem ci_rng2 (hm : X.mg "range" = none) (ha : CE X a fa) (hb : CE X b fb) (hg : Gl X "range" := by rfl) (hs : starEach [a, b] X.env = [(false, eval a X.env), (false, eval b X.env)] := by rfl) (hs2 : starEach [b] X.env = [(false, eval b X.env)] := by rfl) : CI X tg (.Call (.Name "range" pn) [a, b] [] pos) (rng2I fa fb) :=
  PIimp (pi_range2 hg hm (ca_cons ha (ca_cons hb ca_nil hs2) (by rw [hs, hs2])) hs hs2) fun σ H R0 h => by
  obtain ⟨F, O, A, sl, p, ds, sl', p', R, hf, q⟩ := h
  unfold rng2I at hf
  split at hf
  · rename_i i p1 e1
    split at hf
    · rename_i j p2 e2
      split at hf
      · rename_i c
        cases hf
        refine ⟨F, O, A, _, p, _, _, R, args2 e1 e2, fun vs H1 x1 r1 => ?_⟩
        obtain ⟨v, u, rfl, r, r'⟩ := r1.two
        exact ⟨i, j, by rw [shI r, shI r'], c, q _ O A H1 (R.exp x1) (R.tr x1) goes_range⟩
      · cases hf
    · cases hf
  · cases hf
/-- enumerate(list) -/
def enumI (f : Ev) (sl : Sl) (p : Pot) : Option (List PyData × Sl × Pot) := match f sl p with
  | some (val, p1) => (match val.dat with
    | some (.list ds, _) => some (enumD ds, calm val sl, p1)
    | _ => none)
  | none => none
theorem ci_enum (hm : X.mg "enumerate" = none) (ha : CE X a fa) (hg : Gl X "enumerate" := by rfl) (hs : starEach [a] X.env = [(false, eval a X.env)] := by rfl) : CI X (.Tuple elts kk tpos) (.Call (.Name "enumerate" pn) [a] [] pos) (enumI fa) := PIimp (pi_enum hg hm (ca_cons ha ca_nil hs) hs) fun σ H R0 h => by
  obtain ⟨F, O, A, sl, p, ds, sl', p', R, hf, q⟩ := h
  unfold enumI at hf
  split at hf
  · rename_i val p1 e1
    split at hf
    · rename_i es c e2
      cases hf
      refine ⟨F, O, A, sl, p, _, _, R, args1 e1, fun vs H1 x1 r1 => ?_⟩
      obtain ⟨v, rfl, r⟩ := r1.one
      obtain ⟨O', R', rd, sub⟩ := calm_ok R (R.exp x1) r e2
      simp only [RD] at rd
      obtain ⟨l, vs, rfl, n, h1, h2⟩ := rd
      exact ⟨l, vs, rfl, SqL.of h1, q _ O' A H1 R' ((R.tr x1).trans (tr_sub sub)) (goes_enum fun O2 H2 P2 => ⟨P2.1.fr _ _ n h1, h2.map P2.1.map, P2.2⟩)⟩
    · cases hf
  · cases hf
end
end Pu
namespace Pu
open PySem PySem.Spec PyProof.Rows L2

theorem tup_same {val : Val} {ds es : List PyData} {c : Bool} (h : val.items = some (ds, true)) (e : val.dat = some (.tuple es, c)) : c = true ∧ es = ds := by
  cases val with
  | sh d => cases e; cases h; exact ⟨rfl, rfl⟩
  | bo d => cases e; cases h
  | fr d => cases e; cases h
  | is d => cases e; cases h
  | ow i d => cases e; cases h
  | pot => cases e
theorem tup_clean {val : Val} {ds es : List PyData} {c : Bool} (h : val.items = some (ds, true)) (e : val.dat = some (.tuple es, c)) : c = true := (tup_same h e).1
theorem goes_zipT {K : Fg} {P : Pred → Hp → Prop} {a b : Addr} {vs us : List V} {ds es : List PyData} (h : ∀ O H, P O H → SqT K H a vs ∧ SqT K H b us ∧ RDs K O H ds vs ∧ RDs K O H es us ∧ ∀ b, O b → H b ≠ none) : Goes K P (RZ.ItzT K a b) (zipD ds es) where
  go := fun i O H hp hi => by
    obtain ⟨h1, h1', h2, h2', _⟩ := h O H hp
    rw [zipD_len] at hi
    have hv : i < vs.length := by rw [h2.length]; omega
    have hu : i < us.length := by rw [h2'.length]; omega
    exact ⟨vs, us, vs[i], us[i], h1, h1', by simp [hv], by simp [hu]⟩
  yld := fun i O H x H' hp hi hy => by
    obtain ⟨h1, h1', h2, h2', h3⟩ := h O H hp
    obtain ⟨T, u, u', rfl, n, rfl, f, f'⟩ := hy
    obtain ⟨d, e, r⟩ := h2.get' (f vs h1)
    obtain ⟨d', e', r'⟩ := h2'.get' (f' us h1')
    have ez : (ds.zip es)[i]? = some (d, d') := List.getElem?_zip_eq_some.mpr ⟨e, e'⟩
    exact ⟨.tuple [d, d'], by simp only [zipD, List.getElem?_map, ez, Option.map_some], fun b y z => by rw [upd_ne (ne_of_none z n)]; exact z, newTupRD h3 n (.cons r (.cons r' .nil))⟩
  stop := fun i O H hp hi => by
    obtain ⟨h1, h1', h2, h2', _⟩ := h O H hp
    rw [zipD_len] at hi
    exact ⟨vs, us, h1, h1', by rw [h2.length, h2'.length]; omega⟩
/-! ### iterables within an expression: nothing is frozen, nothing is changed meanwhile -/
abbrev Jv := Sl → Pot → Option (List PyData × Pot)
def tJ (K : Fg) (g : Jv) : TI := fun σ H R => ∃ F O A sl p ds p', Rl K F O A sl p σ H ∧ g sl p = some (ds, p') ∧ ∀ J H', Ex F H H' p' → (∀ D, H' D = none → Goes K (fun O2 H2 => O2 = Oa O D ∧ (∃ p2, Ex F H' H2 p2) ∧ ∀ b, O2 b → H2 b ≠ none) J ds) → R J H'
abbrev CJ (X : Cx) (tg iter : Expr) (g : Jv) : Prop := PI X tg iter (tJ X.K g)
def itJ (f : Ev) (sl : Sl) (p : Pot) : Option (List PyData × Pot) := match f sl p with
  | some (val, p1) => (match val.dat with
    | some (.str z, _) => some (charsD z, p1)
    | _ => (match val.items with
      | some (ds, true) => some (ds, p1)
      | _ => none))
  | none => none
section
variable {K : Fg} {F : Fc} {O : Pred} {A : Nat → Addr} {sl : Sl} {p p' p2 : Pot} {σ : L2.St} {H H' H2 : Hp}
/-- clean data stay clean while a comprehension fills a new list D -/
theorem clean_map (R : Rl K F O A sl p σ H) (x : Ex F H H' p') {D : Addr} (n : H' D = none) (x2 : Ex F H' H2 p2) : ∀ b y, ¬ O b → H' b = some y → ¬ Oa O D b ∧ H2 b = some y := fun b y nb e =>
  ⟨fun z => z.elim nb fun w => (by rw [w, n] at e; cases e), x2.keep b y (fun z => nb (by rw [z]; exact R.ap)) e⟩
end
section
variable {X : Cx} {tg e a b : Expr} {f fa fb : Ev} {es : List Expr} {fs : List Ev} {pos pn tpos : Pos} {elts : List Expr} {kk : Nat}
/-- a list, whose every cell is clean, stands still while expressions are reckoned -/
theorem still {K : Fg} {F : Fc} {O : Pred} {A : Nat → Addr} {sl : Sl} {p p' p2 : Pot} {σ : L2.St} {H H' H2 : Hp} {v : V} {val : Val} {ds : List PyData} {c c' : Bool} (R : Rl K F O A sl p σ H) (x : Ex F H H' p') (r : VR K F O A sl H H' v val) (e : val.items = some (ds, c))
    {a : Addr} {vs : List V} (ev : v = .ref a) (h : H' a = some (.lst vs)) (ed : val.dat = some (.list ds, c')) (x2 : Ex F H' H2 p2) : H2 a = some (.lst vs) := by
  have R' := R.exp x
  refine x2.keep _ _ (fun z => ?_) h
  subst ev z
  cases val with
  | sh d => cases ed; have q : RD K O H' (.list ds) (.ref F.ap) := r; simp only [RD] at q; obtain ⟨a, us, ea, n, _⟩ := q; cases ea; exact n R.ap
  | bo d => cases ed; have q : RD K (Ob O A sl) H' (.list ds) (.ref F.ap) := r; simp only [RD] at q; obtain ⟨a, us, ea, n, _⟩ := q; cases ea; exact n R.boApO
  | fr d => obtain ⟨q, ea, n, _⟩ := r; cases ea; exact R.potNe n
  | is d => obtain ⟨q, ea, n, _⟩ := r; cases ea; exact R.potNe n
  | ow i d => obtain ⟨ea, ei⟩ := r; exact R.boxNe ei rfl (V.ref.inj ea).symm
  | pot => cases ed
theorem cj_val (he : CE X e f) : CJ X tg e (itJ f) := PIimp (PI.or (PI.or (pi_list he) (pi_tup he)) (pi_str he)) fun σ H R0 h => by
  obtain ⟨F, O, A, sl, p, ds, p', R, hf, q⟩ := h
  unfold itJ at hf
  split at hf
  · rename_i val p1 e1
    split at hf
    · rename_i z _ e2
      cases hf
      exact .inr (tE.get R e1 fun v H1 x1 r1 => ⟨z, rdS (r1.dat R (R.exp x1) e2), q _ H1 x1 fun D nD => goes_str⟩)
    · split at hf
      · rename_i ds' i1
        cases hf
        by_cases hl : ∃ c', val.dat = some (.list ds, c')
        · obtain ⟨c', ed⟩ := hl
          refine .inl (.inl (tE.get R e1 fun v H1 x1 r1 => ?_))
          obtain ⟨l, vs, ev, t, rd⟩ := r1.items R (R.exp x1) i1
          have h1 : H1 l = some (.lst vs) := by
            rcases t with ⟨_, _, h1⟩ | ⟨_, e3, _⟩
            · exact h1
            · rw [ed] at e3; cases e3
          refine ⟨l, ev, ⟨vs, SqL.of h1⟩, q _ H1 x1 fun D nD => goes_list (vs := vs) fun O2 H2 P2 => ?_⟩
          obtain ⟨rfl, ⟨p2, x2⟩, _⟩ := P2
          exact ⟨still R x1 r1 i1 ev h1 ed x2, rd.map (clean_map R x1 nD x2)⟩
        · refine .inl (.inr (tE.get R e1 fun v H1 x1 r1 => ?_))
          obtain ⟨_, _, _, t, _⟩ := r1.items R (R.exp x1) i1
          rcases t with ⟨c', ed, _⟩ | ⟨c', ed, _⟩
          · exact absurd ⟨c', ed⟩ hl
          have ec := tup_clean i1 ed
          subst ec
          have rt := r1.dat R (R.exp x1) ed
          simp only [RD] at rt
          obtain ⟨l, us, rfl, h2, rd⟩ := rt
          have st : ∀ (H2 : Hp) (p2 : Pot), Ex F H1 H2 p2 → SqT X.K H2 l us := fun H2 p2 x2 => h2.elim (fun z => SqT.of (x2.keep _ _ (fun w => z.1 (by rw [w]; exact R.apQ true)) z.2)) .inr
          refine ⟨l, rfl, ⟨us, st H1 p' ⟨fun _ _ _ e => e, x1.pot⟩⟩, q _ H1 x1 fun D nD => goes_tup (vs := us) fun O2 H2 P2 => ?_⟩
          obtain ⟨rfl, ⟨p2, x2⟩, _⟩ := P2
          exact ⟨st H2 p2 x2, RDs.map (clean_map R x1 nD x2) rd⟩
      · cases hf
  · cases hf
/-- ranges -/
def rng1J (f : Ev) (sl : Sl) (p : Pot) : Option (List PyData × Pot) := match f sl p with
  | some (.sh (.int j), p1) => if -(2 ^ 62) ≤ j ∧ j < 2 ^ 62 then some (rangeD 0 j.toNat, p1) else none
  | _ => none
def rng2J (fa fb : Ev) (sl : Sl) (p : Pot) : Option (List PyData × Pot) := match fa sl p with
  | some (.sh (.int i), p1) => (match fb sl p1 with
    | some (.sh (.int j), p2) => if (-(2 ^ 62) ≤ i ∧ i < 2 ^ 62 ∧ -(2 ^ 62) ≤ j ∧ j < 2 ^ 62) then some (rangeD i (j - i).toNat, p2) else none
    | _ => none)
  | _ => none
theorem cj_rng1 (hm : X.mg "range" = none) (ha : CE X a fa) (hg : Gl X "range" := by rfl) (hs : starEach [a] X.env = [(false, eval a X.env)] := by rfl) : CJ X tg (.Call (.Name "range" pn) [a] [] pos) (rng1J fa) := PIimp (pi_range1 hg hm (ca_cons ha ca_nil hs) hs) fun σ H R0 h => by
  obtain ⟨F, O, A, sl, p, ds, p', R, hf, q⟩ := h
  unfold rng1J at hf
  split at hf
  · rename_i j p1 e1
    split at hf
    · rename_i c
      cases hf
      refine ⟨F, O, A, sl, p, _, _, R, args1 e1, fun vs H1 x1 r1 => ?_⟩
      obtain ⟨v, rfl, r⟩ := r1.one
      exact ⟨j, by rw [shI r], c.1, c.2, q _ H1 x1 fun D nD => goes_range⟩
    · cases hf
  · cases hf
theorem cj_rng2 (hm : X.mg "range" = none) (ha : CE X a fa) (hb : CE X b fb) (hg : Gl X "range" := by rfl) (hs : starEach [a, b] X.env = [(false, eval a X.env), (false, eval b X.env)] := by rfl) (hs2 : starEach [b] X.env = [(false, eval b X.env)] := by rfl) : CJ X tg (.Call (.Name "range" pn) [a, b] [] pos) (rng2J fa fb) :=
  PIimp (pi_range2 hg hm (ca_cons ha (ca_cons hb ca_nil hs2) (by rw [hs, hs2])) hs hs2) fun σ H R0 h => by
  obtain ⟨F, O, A, sl, p, ds, p', R, hf, q⟩ := h
  unfold rng2J at hf
  split at hf
  · rename_i i p1 e1
    split at hf
    · rename_i j p2 e2
      split at hf
      · rename_i c
        cases hf
        refine ⟨F, O, A, sl, p, _, _, R, args2 e1 e2, fun vs H1 x1 r1 => ?_⟩
        obtain ⟨v, u, rfl, r, r'⟩ := r1.two
        exact ⟨i, j, by rw [shI r, shI r'], c, q _ H1 x1 fun D nD => goes_range⟩
      · cases hf
    · cases hf
  · cases hf
/-- zip of two lists, of two tuples -/
def zipJ (fa fb : Ev) (sl : Sl) (p : Pot) : Option (List PyData × Pot) := match fa sl p with
  | some (x, p1) => (match fb sl p1 with
    | some (y, p2) => (match x.items, y.items with
      | some (ds, true), some (es, true) => (match x.dat, y.dat with
        | some (.list _, _), some (.list _, _) => some (zipD ds es, p2)
        | some (.tuple _, _), some (.tuple _, _) => some (zipD ds es, p2)
        | _, _ => none)
      | _, _ => none)
    | none => none)
  | none => none
theorem cj_zip (hm : X.mg "zip" = none) (ha : CE X a fa) (hb : CE X b fb) (hg : Gl X "zip" := by rfl) (hs : starEach [a, b] X.env = (false, eval a X.env) :: starEach [b] X.env := by rfl) (hpl : (backTo pos (starEach [b] X.env)).any (·.1) = false := by rfl)
    (hs2 : starEach [b] X.env = (false, eval b X.env) :: starEach [] X.env := by rfl) : CJ X (.Tuple elts kk tpos) (.Call (.Name "zip" pn) [a, b] [] pos) (zipJ fa fb) :=
  PIimp (RZ.pi_zipA hg hm (ca_cons ha (ca_cons hb ca_nil hs2) hs) hs hpl) fun σ H R0 h => by
  obtain ⟨F, O, A, sl, p, ds, p', R, hf, q⟩ := h
  unfold zipJ at hf
  split at hf
  · rename_i x p1 e1
    split at hf
    · rename_i y p2 e2
      split at hf
      · rename_i ds es i1 i2
        refine ⟨F, O, A, sl, p, _, _, R, args2 e1 e2, fun vs H1 x1 r1 => ?_⟩
        obtain ⟨v, u, rfl, r, r'⟩ := r1.two
        split at hf
        · rename_i d1 c1 d2 c2 ed1 ed2
          cases hf
          obtain ⟨l, vs, ev, t, rd⟩ := r.items R (R.exp x1) i1
          obtain ⟨l', us, ev', t', rd'⟩ := r'.items R (R.exp x1) i2
          rcases t with ⟨_, e3, h1⟩ | ⟨_, e3, _⟩
          · rcases t' with ⟨_, e4, h2⟩ | ⟨_, e4, _⟩
            · exact ⟨l, l', vs, us, by rw [ev, ev'], .inl ⟨SqL.of h1, SqL.of h2, q _ H1 x1 fun D nD => goes_zip (vs := vs) (us := us) fun O2 H2 P2 => by
                obtain ⟨rfl, ⟨p3, x3⟩, dm⟩ := P2
                exact ⟨SqL.of (still R x1 r i1 ev h1 e3 x3), SqL.of (still R x1 r' i2 ev' h2 e4 x3), rd.map (clean_map R x1 nD x3), rd'.map (clean_map R x1 nD x3), dm⟩⟩⟩
            · rw [ed2] at e4; cases e4
          · rw [ed1] at e3; cases e3
        · rename_i d1 c1 d2 c2 ed1 ed2
          cases hf
          have k1 := tup_same i1 ed1
          have k2 := tup_same i2 ed2
          obtain ⟨rfl, rfl⟩ := k1
          obtain ⟨rfl, rfl⟩ := k2
          have rt := r.dat R (R.exp x1) ed1
          have rt' := r'.dat R (R.exp x1) ed2
          simp only [RD] at rt rt'
          obtain ⟨l, vs, ev, h1, rd⟩ := rt
          obtain ⟨l', us, ev', h2, rd'⟩ := rt'
          have st : ∀ {l : Addr} {vs : List V}, ((¬ Oq O A sl true l ∧ H1 l = some (.tup vs)) ∨ KT X.K l vs) → ∀ (H2 : Hp) (p2 : Pot), Ex F H1 H2 p2 → SqT X.K H2 l vs := fun h H2 p2 x2 => h.elim (fun z => SqT.of (x2.keep _ _ (fun w => z.1 (by rw [w]; exact R.apQ true)) z.2)) .inr
          have x0 : Ex F H1 H1 p' := ⟨fun _ _ _ e => e, x1.pot⟩
          exact ⟨l, l', vs, us, by rw [ev, ev'], .inr ⟨st h1 H1 _ x0, st h2 H1 _ x0, q _ H1 x1 fun D nD => goes_zipT (vs := vs) (us := us) fun O2 H2 P2 => by
            obtain ⟨rfl, ⟨p3, x3⟩, dm⟩ := P2
            exact ⟨st h1 H2 _ x3, st h2 H2 _ x3, RDs.map (clean_map R x1 nD x3) rd, RDs.map (clean_map R x1 nD x3) rd', dm⟩⟩⟩
        · cases hf
      · cases hf
    · cases hf
  · cases hf
end
end Pu
namespace Pu
open PySem PySem.Spec PyProof.Rows L2

def wipeSl (sl : Sl) : List Nat → Sl
  | [] => sl
  | v :: vs => (wipeSl sl vs).set v .un
section
variable {K : Fg} {F : Fc} {O : Pred} {A : Nat → Addr} {sl : Sl} {p p' : Pot} {σ σ' : L2.St} {H H' : Hp}
theorem Rl.setUn (R : Rl K F O A sl p σ H) (v : Nat) : Rl K F O A (sl.set v .un) p (σ.set v none) H := by
  refine ⟨R.dom, R.cur, R.cd, R.apO, R.ext, R.pot, fun j t e => ?_, fun j k u t e b e2 b2 => ?_, by rw [List.length_set, List.length_set]; exact R.len⟩
  · by_cases hj : j = v
    · subst hj
      by_cases hl : j < sl.length
      · rw [List.getElem?_set_self hl] at e
        cases e
        exact True.intro
      · rw [List.getElem?_eq_none (by simpa using hl)] at e; cases e
    · rw [List.getElem?_set_ne (Ne.symm hj)] at e
      have q := R.slot j t e
      have es : (σ.set v none)[j]? = σ[j]? := List.getElem?_set_ne (Ne.symm hj)
      cases t with
      | un => exact True.intro
      | sh d => obtain ⟨v', e1, r⟩ := q; exact ⟨v', by rw [es]; exact e1, r⟩
      | own c => obtain ⟨e1, r⟩ := q; exact ⟨by rw [es]; exact e1, r⟩
      | iso c => obtain ⟨e1, r⟩ := q; exact ⟨by rw [es]; exact e1, r⟩
      | pot => exact (by rw [es]; exact q : (σ.set v none)[j]? = some (some (.ref F.ap)))
  · have ne : ∀ {j : Nat} {u : Slot}, (sl.set v .un)[j]? = some u → isBox u = true → sl[j]? = some u := fun {j u} e b => by
      by_cases hj : j = v
      · subst hj
        by_cases hl : j < sl.length
        · rw [List.getElem?_set_self hl] at e
          cases e; cases b
        · rw [List.getElem?_eq_none (by simpa using hl)] at e; cases e
      · rw [List.getElem?_set_ne (Ne.symm hj)] at e
        exact e
    exact R.inj j k u t (ne e b) b (ne e2 b2) b2
theorem Rl.wipe (R : Rl K F O A sl p σ H) : ∀ vs : List Nat, Rl K F O A (wipeSl sl vs) p (L2.wipe σ vs) H
  | [] => R
  | v :: vs => (R.wipe vs).setUn v
theorem wipe_get (τ : L2.St) (i : Nat) : ∀ vs : List Nat, (L2.wipe τ vs)[i]? = if i ∈ vs then (if i < τ.length then some none else none) else τ[i]?
  | [] => by simp [L2.wipe]
  | v :: vs => by
    have ih := wipe_get τ i vs
    show ((L2.wipe τ vs).set v none)[i]? = _
    by_cases h : v = i
    · subst h
      by_cases hl : v < τ.length
      · rw [List.getElem?_set_self (by rw [wipe_length]; exact hl)]
        simp [hl]
      · rw [List.getElem?_eq_none (by rw [List.length_set, wipe_length]; omega)]
        simp [hl]
    · rw [List.getElem?_set_ne h, ih]
      by_cases h2 : i ∈ vs
      · simp [h2]
      · simp [h2, Ne.symm h]
theorem Ag.wipe {is vs : List Nat} (g : Ag is (L2.wipe σ vs) σ') (h : ∀ i ∈ is, i ∈ vs) : L2.wipe σ' vs = L2.wipe σ vs := by
  apply List.ext_getElem?
  intro i
  rw [wipe_get, wipe_get]
  have hl : σ'.length = σ.length := g.1.trans (wipe_length σ vs)
  by_cases hi : i ∈ vs
  · rw [if_pos hi, if_pos hi, hl]
  · rw [if_neg hi, if_neg hi, g.2 i fun z => hi (h i z), wipe_get, if_neg hi]
/-- a list outside of everything is changed -/
theorem Rl.updD (R : Rl K F O A sl p σ H) {D : Addr} {o : HO} (hO : O D) (hn : F.H0 D = none) (nb : ∀ i s, sl[i]? = some s → isBox s = true → A i ≠ D) : Rl K F O A sl p σ (upd H D o) := by
  have na : D ≠ F.ap := fun z => R.cd _ R.apO (by rw [← z]; exact hn)
  have m : ∀ b x, ¬ O b → H b = some x → ¬ O b ∧ upd H D o b = some x := fun b x n e => ⟨n, by rw [upd_ne (fun z => n (by rw [z]; exact hO))]; exact e⟩
  refine ⟨fun b h => ?_, R.cur, R.cd, R.apO, fun b x n e => ?_, by rw [upd_ne (Ne.symm na)]; exact R.pot, fun i s e => ?_, R.inj, R.len⟩
  · by_cases z : b = D
    · subst z; rw [upd_same]; exact fun q => nomatch q
    · rw [upd_ne z]; exact R.dom b h
  · rw [upd_ne (fun z => by rw [z, hn] at e; cases e)]
    exact R.ext b x n e
  · have q := R.slot i s e
    cases s with
    | un => exact True.intro
    | sh d => obtain ⟨v, e1, r⟩ := q; exact ⟨v, e1, r.map m⟩
    | own c =>
      have ne := nb i _ e rfl
      obtain ⟨e1, r, o1, z⟩ := q
      exact ⟨e1, r.map m (fun x h => by rw [upd_ne ne]; exact h), o1, z⟩
    | iso c =>
      have ne := nb i _ e rfl
      obtain ⟨e1, r, o1, z, t⟩ := q
      refine ⟨e1, r.map fun b x n eb => ⟨n, ?_⟩, o1, z, by rw [upd_ne ne]; exact t⟩
      rw [upd_ne (fun w => n ⟨by rw [w]; exact hO, fun w2 => ne (by rw [← w2, w])⟩)]
      exact eb
    | pot => exact q
end

/-! ### comprehensions -/
def compL (t : Tg) (ft fe : Ev) (sl : Sl) : List PyData → Pot → Option (List PyData × Pot)
  | [], p => some ([], p)
  | d :: ds, p => match asgD t d sl with
    | some sl1 => (match ft sl1 p with
      | some (.sh (.bool true), p1) => (match fe sl1 p1 with
        | some (val, p2) => (match val.dat with
          | some (e, true) => (match compL t ft fe sl ds p2 with
            | some (es, p3) => some (e :: es, p3)
            | none => none)
          | _ => none)
        | none => none)
      | some (.sh (.bool false), p1) => compL t ft fe sl ds p1
      | _ => none)
    | none => none
def lcE (t : Tg) (g : Jv) (ft fe : Ev) (vs : List Nat) (sl : Sl) (p : Pot) : Option (Val × Pot) := match g sl p with
  | some (ds, p1) => (match compL t ft fe (wipeSl sl vs) ds p1 with
    | some (es, p2) => if es.length ≤ sizeLine then some (.fr (.list es), p2) else none
    | none => none)
  | none => none
def yesE : Ev := constE (.bool true)
theorem tE_lc {K : Fg} {t : Tg} {g : Jv} {ft fe : Ev} {vs : List Nat} (hv : ∀ i ∈ t.ix, i ∈ vs) : ∀ σ H Q, tE K (lcE t g ft fe vs) σ H Q → tLc (tJ K g) (tG K t) (tT K ft) (tE K fe) vs σ H Q := fun σ H Q h => by
  obtain ⟨F, O, A, sl, p, val, p', R, hf, q⟩ := h
  unfold lcE at hf
  split at hf
  · rename_i ds p1 e1
    split at hf
    · rename_i es p2 e2
      split at hf
      · rename_i hz
        cases hf
        refine ⟨F, O, A, sl, p, ds, p1, R, e1, fun J H1 x1 G D nD => ?_⟩
        have G := G D nD
        have R1 := R.exp x1
        have nD0 : H D = none := by
          cases z : H D with
          | none => rfl
          | some u =>
            by_cases w : D = F.ap
            · rw [w] at nD; exact absurd nD R1.potNe
            · rw [x1.keep D u w z] at nD; cases nD
        have hD0 : F.H0 D = none := R.h0 nD0
        have nbox : ∀ i s, (wipeSl sl vs)[i]? = some s → isBox s = true → A i ≠ D := fun i s e b => by
          have Rw := R1.wipe vs
          obtain ⟨_, _, x, hx⟩ := Rw.box e b
          intro z
          rw [z, nD] at hx; cases hx
        have xn := Ex.new R1 (o := .lst []) nD
        have RD0 : Rl K F (Oa O D) A (wipeSl sl vs) p1 (L2.wipe σ vs) (upd H1 D (.lst [])) := (R1.add nD xn (by rw [upd_same]; exact fun z => nomatch z)).wipe vs
        refine ⟨fun i m H2 => m = ds.length - i ∧ i ≤ ds.length ∧ ∃ (p3 : Pot) (rest accd : List PyData) (acc : List V), Rl K F (Oa O D) A (wipeSl sl vs) p3 (L2.wipe σ vs) H2 ∧ (∃ p4, Ex F H1 H2 p4) ∧ H2 D = some (.lst acc) ∧ RDs K (Oa O D) H2 accd acc ∧
            compL t ft fe (wipeSl sl vs) (ds.drop i) p3 = some (rest, p') ∧ accd ++ rest = es,
          ⟨ds.length, by simp, Nat.zero_le _, p1, es, [], [], RD0, ⟨p1, xn⟩, upd_same, .nil, by simpa using e2, rfl⟩, ?_⟩
        rintro i m H2 ⟨rfl, hi, p3, rest, accd, acc, R2, ⟨p4, x2⟩, hD2, rd2, e3, ees⟩
        have P2 : (fun O2 H2 => O2 = Oa O D ∧ (∃ p2, Ex F H1 H2 p2) ∧ ∀ b, O2 b → H2 b ≠ none) (Oa O D) H2 := ⟨rfl, ⟨p4, x2⟩, R2.dom⟩
        by_cases hlt : i < ds.length
        · refine .inr ⟨G.go i _ H2 P2 hlt, fun H' => ∃ (p3 : Pot) (rest accd : List PyData) (acc : List V), Rl K F (Oa O D) A (wipeSl sl vs) p3 (L2.wipe σ vs) H' ∧ (∃ p4, Ex F H1 H' p4) ∧ H' D = some (.lst acc) ∧ RDs K (Oa O D) H' accd acc ∧
              compL t ft fe (wipeSl sl vs) (ds.drop (i + 1)) p3 = some (rest, p') ∧ accd ++ rest = es,
            fun H' hN => ⟨ds.length - (i + 1), by omega, rfl, hlt, hN⟩, fun x H3 hy => ?_⟩
          obtain ⟨d, ed, k3, r3⟩ := G.yld i _ H2 x H3 P2 hlt hy
          have x3 : Ex F H2 H3 p3 := ⟨fun b y _ e => k3 b y e, k3 _ _ R2.pot⟩
          have R3 := R2.exp x3
          have e4 : ds[i] = d := by
            rw [List.getElem?_eq_getElem hlt] at ed
            exact Option.some.inj ed
          rw [List.drop_eq_getElem_cons hlt, e4] at e3
          unfold compL at e3
          split at e3
          · rename_i sl1 e5
            refine ⟨F, Oa O D, A, wipeSl sl vs, p3, d, sl1, R3, r3, e5, fun σ4 R4 g4 => ⟨g4.wipe hv, ?_⟩⟩
            -- what every way of the turn ends with
            have back : ∀ {H5 : Hp} {p5 : Pot}, Ex F H3 H5 p5 → Rl K F (Oa O D) A (wipeSl sl vs) p5 (L2.wipe σ vs) H5 := fun {H5 p5} x5 => R3.exp x5
            have naD : D ≠ F.ap := fun z => R.potNe (by rw [← z]; exact nD0)
            split at e3
            · rename_i p5 e6
              refine ⟨F, Oa O D, A, sl1, p3, true, p5, R4, e6, fun H5 x5 => iteT ?_⟩
              split at e3
              · rename_i val p6 e7
                split at e3
                · rename_i e e8
                  split at e3
                  · rename_i es' p7 e9
                    cases e3
                    refine tE.get (R4.exp x5) e7 fun v H6 x6 r6 => ?_
                    have x36 := x5.trans x6
                    have re : RD K (Oa O D) H6 e v := r6.dat (R4.exp x5) ((R4.exp x5).exp x6) e8
                    have x26 := x3.trans x36
                    have hD6 : H6 D = some (.lst acc) := x26.keep _ _ naD hD2
                    have rd6 : RDs K (Oa O D) H6 accd acc := rd2.map (ex_map R2.ap x26)
                    have lacc := rd6.length
                    have les : accd.length < es.length := by rw [← ees]; simp
                    have R6 := back x36
                    have mD : ∀ b x, ¬ Oa O D b → H6 b = some x → ¬ Oa O D b ∧ upd H6 D (.lst (acc ++ [v])) b = some x := fun b x n e => ⟨n, by rw [upd_ne (fun z => n (.inr z))]; exact e⟩
                    refine ⟨acc, hD6, by omega, p6, es', accd ++ [e], acc ++ [v], R6.updD (.inr rfl) hD0 nbox, ⟨p6, ?_⟩, upd_same, (rd6.append (.cons re .nil)).map mD, e9, by rw [List.append_assoc]; exact ees⟩
                    refine ⟨fun b y n e => ?_, ?_⟩
                    · rw [upd_ne (fun z => by rw [z, nD] at e; cases e)]
                      exact (x2.trans x26).keep b y n e
                    · rw [upd_ne (Ne.symm naD)]; exact x36.pot
                  · cases e3
                · cases e3
              · cases e3
            · rename_i p5 e6
              refine ⟨F, Oa O D, A, sl1, p3, false, p5, R4, e6, fun H5 x5 => iteF ?_⟩
              have x25 := x3.trans x5
              exact ⟨p5, rest, accd, acc, back x5, ⟨p5, x2.trans x25⟩, x25.keep _ _ naD hD2, rd2.map (ex_map R2.ap x25), e3, ees⟩
            · cases e3
          · cases e3
        · have ei : i = ds.length := by omega
          subst ei
          rw [List.drop_length] at e3
          simp only [compL] at e3
          cases e3
          rw [List.append_nil] at ees
          subst ees
          exact .inl ⟨G.stop _ _ H2 P2 (Nat.le_refl _), q _ H2 (x1.trans ⟨x2.keep, R2.pot⟩) ⟨D, rfl, nD0, acc, hD2, rd2⟩⟩
      · cases hf
    · cases hf
  · cases hf
section
variable {X : Cx} {elt tg iter c : Expr} {ifs : List Expr} {scope : Scope} {pos : Pos} {t : Tg} {g : Jv} {ft fe f : Ev}
theorem cts_nil : PTs X [] (tT X.K yesE) := ⟨fun pins s σ H Q I h => pts_nil.run pins s σ H Q I (by
  obtain ⟨F, O, A, sl, p, b, p', R, hf, q⟩ := h
  cases hf
  exact q H (Ex.refl R))⟩
theorem cts_one (h : CT X c f) : PTs X [c] (tT X.K f) := pts_one h
theorem ce_lc (own : List (Str × Nat)) (hc : X.calm = true) (hN : X.N.Nodup) (hi : CJ X tg iter g) (ok : BlkOk X.N X.env.scope scope own)
    (hg : ∀ (s : Shared) (H : Hp) (C : Addr) (cl : List (Str × Addr)) (fp : List Addr), CG (X.blk s H scope (compEnvC scope cl C X.env) fp) tg t) (ht : ∀ (s : Shared) (H : Hp) (C : Addr) (cl : List (Str × Addr)) (fp : List Addr), PTs (X.blk s H scope (compEnvC scope cl C X.env) fp) ifs (tT X.K ft))
    (he : ∀ (s : Shared) (H : Hp) (C : Addr) (cl : List (Str × Addr)) (fp : List Addr), CE (X.blk s H scope (compEnvC scope cl C X.env) fp) elt fe)
    (hv : ∀ i ∈ t.ix, i ∈ own.map (·.2) := by decide) (hs : ∀ x, foldedSetIterable iter X.env x = pure x := by intro _; rfl) : CE X (.ListComp elt [⟨tg, iter, ifs, 0⟩] scope pos) (lcE t g ft fe (own.map (·.2))) :=
  PEimp (pe_lc (own := own) hc hN hi ok hg ht he hs) (tE_lc hv)
theorem cs_setLc (own : List (Str × Nat)) {y : Str} {py spos : Pos} (i : Nat) (hc : X.calm = true) (hN : X.N.Nodup) (hi : CJ X tg iter g) (ok : BlkOk X.N X.env.scope scope own)
    (hg : ∀ (s : Shared) (H : Hp) (C : Addr) (cl : List (Str × Addr)) (fp : List Addr), CG (X.blk s H scope (compEnvC scope cl C X.env) fp) tg t) (ht : ∀ (s : Shared) (H : Hp) (C : Addr) (cl : List (Str × Addr)) (fp : List Addr), PTs (X.blk s H scope (compEnvC scope cl C X.env) fp) ifs (tT X.K ft))
    (he : ∀ (s : Shared) (H : Hp) (C : Addr) (cl : List (Str × Addr)) (fp : List Addr), CE (X.blk s H scope (compEnvC scope cl C X.env) fp) elt fe)
    (hsw : swapsWith (.ListComp elt [⟨tg, iter, ifs, 0⟩] scope pos) (some (.Name y py)) spos.line X.env = pure true)
    (hy : X.N[i]? = some y := by rfl) (hyl : X.env.scope.names.lookup y = some .local := by rfl) (hv : ∀ i ∈ t.ix, i ∈ own.map (·.2) := by decide) (hs : ∀ x, foldedSetIterable iter X.env x = pure x := by intro _; rfl) : CS X (.Assign [.Name y py] (.ListComp elt [⟨tg, iter, ifs, 0⟩] scope pos) spos) (setS i (lcE t g ft fe (own.map (·.2)))) :=
  PSimp (ps_setLc (own := own) hc hN hy hyl hsw hi ok hg ht he hs) fun D σ H h => by
    obtain ⟨F, O, A, sl, p, out, R, hf, q⟩ := h
    unfold setS at hf
    split at hf
    · rename_i val p1 e1
      obtain ⟨sl', e2, rfl⟩ := Option.map_eq_some_iff.mp hf
      refine tE_lc hv σ H _ (tE.get R e1 fun v H1 x1 r1 => ?_)
      obtain ⟨O', A', R', T⟩ := asg_ok R x1 r1 e2
      exact q O' A' _ H1 R' T
    · cases hf
end
end Pu
namespace Pu
open PySem PySem.Spec PyProof.Rows L2

section
variable {K : Fg} {F : Fc} {O : Pred} {A : Nat → Addr} {sl : Sl} {p p' : Pot} {σ σ' : L2.St} {H H' : Hp}
/-- the container of slot i is changed -/
theorem Rl.write (R : Rl K F O A sl p σ H) {i : Nat} {c c' : PyData} {o : HO} (ei : sl[i]? = some (.own c)) (h : RC K O (upd H (A i) o) c' (A i)) : Rl K F O A (sl.set i (.own c')) p σ (upd H (A i) o) := by
  obtain ⟨es, rc, oi, zi⟩ := R.slot i _ ei
  have na := R.boxNe ei rfl
  have hi : i < sl.length := (List.getElem?_eq_some_iff.mp ei).1
  have m : ∀ b x, ¬ O b → H b = some x → ¬ O b ∧ upd H (A i) o b = some x := fun b x n e => ⟨n, by rw [upd_ne (fun z => n (by rw [z]; exact oi))]; exact e⟩
  refine ⟨fun b hb => ?_, R.cur, R.cd, R.apO, fun b x n e => ?_, by rw [upd_ne (Ne.symm na)]; exact R.pot, fun j s e => ?_, fun j k u t e b e2 b2 => ?_, by rw [List.length_set]; exact R.len⟩
  · by_cases z : b = A i
    · subst z; rw [upd_same]; exact fun q => nomatch q
    · rw [upd_ne z]; exact R.dom b hb
  · rw [upd_ne (fun z => by rw [z, zi] at e; cases e)]
    exact R.ext b x n e
  · by_cases hj : j = i
    · subst hj
      rw [List.getElem?_set_self hi] at e
      cases e
      exact ⟨es, h, oi, zi⟩
    · rw [List.getElem?_set_ne (Ne.symm hj)] at e
      have q := R.slot j s e
      cases s with
      | un => exact True.intro
      | sh d => obtain ⟨v, e1, r⟩ := q; exact ⟨v, e1, r.map m⟩
      | own c =>
        have ne : A j ≠ A i := fun z => hj (R.inj j i _ _ e rfl ei rfl z)
        obtain ⟨e1, r, o1, z⟩ := q
        exact ⟨e1, r.map m (fun x h => by rw [upd_ne ne]; exact h), o1, z⟩
      | iso c =>
        have ne : A j ≠ A i := fun z => hj (R.inj j i _ _ e rfl ei rfl z)
        obtain ⟨e1, r, o1, z, t⟩ := q
        refine ⟨e1, r.map fun b x n eb => ⟨n, ?_⟩, o1, z, by rw [upd_ne ne]; exact t⟩
        rw [upd_ne (fun w => n ⟨by rw [w]; exact oi, fun w2 => ne (by rw [← w2, w])⟩)]
        exact eb
      | pot => exact q
  · have ne : ∀ {j : Nat} {u : Slot}, (sl.set i (.own c'))[j]? = some u → isBox u = true → ∃ u', sl[j]? = some u' ∧ isBox u' = true := fun {j u} e b => by
      by_cases hj : j = i
      · subst hj
        exact ⟨_, ei, rfl⟩
      · rw [List.getElem?_set_ne (Ne.symm hj)] at e
        exact ⟨u, e, b⟩
    obtain ⟨u', e', b'⟩ := ne e b
    obtain ⟨t', e2', b2'⟩ := ne e2 b2
    exact R.inj j k u' t' e' b' e2' b2'
theorem Rl.trW (R : Rl K F O A sl p σ H) {i : Nat} {c : PyData} {o : HO} (ei : sl[i]? = some (.own c)) : Tr O H O (upd H (A i) o) := by
  obtain ⟨es, rc, oi, zi⟩ := R.slot i _ ei
  exact ⟨fun b x n e => by rw [upd_ne (fun z => n (by rw [z]; exact oi))]; exact e, fun _ h => .inl h⟩
theorem Rl.mapW (R : Rl K F O A sl p σ H) {i : Nat} {c : PyData} {o : HO} (ei : sl[i]? = some (.own c)) : ∀ b x, ¬ O b → H b = some x → ¬ O b ∧ upd H (A i) o b = some x := fun b x n e => ⟨n, (R.trW ei).fr b x n e⟩
end

section
variable {K : Fg} {F : Fc} {O : Pred} {A : Nat → Addr} {sl : Sl} {p p' : Pot} {σ σ' : L2.St} {H H' : Hp}
/-- the list of an iso slot is changed, the slot is given up -/
theorem Rl.drop (R : Rl K F O A sl p σ H) {i : Nat} {c : PyData} {o : HO} (ei : sl[i]? = some (.iso c)) : Rl K F O A (sl.set i .un) p σ (upd H (A i) o) ∧ Tr O H O (upd H (A i) o) := by
  obtain ⟨es, rc, oi, zi, ti⟩ := R.slot i _ ei
  have na := R.boxNe ei rfl
  have hi : i < sl.length := (List.getElem?_eq_some_iff.mp ei).1
  have m : ∀ b x, ¬ O b → H b = some x → ¬ O b ∧ upd H (A i) o b = some x := fun b x n e => ⟨n, by rw [upd_ne (fun z => n (by rw [z]; exact oi))]; exact e⟩
  refine ⟨⟨fun b hb => ?_, R.cur, R.cd, R.apO, fun b x n e => ?_, by rw [upd_ne (Ne.symm na)]; exact R.pot, fun j s e => ?_, fun j k u t e b e2 b2 => ?_, by rw [List.length_set]; exact R.len⟩, fun b x n e => (m b x n e).2, fun _ h => .inl h⟩
  · by_cases z : b = A i
    · subst z; rw [upd_same]; exact fun q => nomatch q
    · rw [upd_ne z]; exact R.dom b hb
  · rw [upd_ne (fun z => by rw [z, zi] at e; cases e)]
    exact R.ext b x n e
  · by_cases hj : j = i
    · subst hj
      rw [List.getElem?_set_self hi] at e
      cases e
      exact True.intro
    · rw [List.getElem?_set_ne (Ne.symm hj)] at e
      have q := R.slot j s e
      cases s with
      | un => exact True.intro
      | sh d => obtain ⟨v, e1, r⟩ := q; exact ⟨v, e1, r.map m⟩
      | own c =>
        have ne : A j ≠ A i := fun z => hj (R.inj j i _ _ e rfl ei rfl z)
        obtain ⟨e1, r, o1, z⟩ := q
        exact ⟨e1, r.map m (fun x h => by rw [upd_ne ne]; exact h), o1, z⟩
      | iso c =>
        have ne : A j ≠ A i := fun z => hj (R.inj j i _ _ e rfl ei rfl z)
        obtain ⟨e1, r, o1, z, t⟩ := q
        refine ⟨e1, r.map fun b x n eb => ⟨n, ?_⟩, o1, z, by rw [upd_ne ne]; exact t⟩
        rw [upd_ne (fun w => n ⟨by rw [w]; exact oi, fun w2 => ne (by rw [← w2, w])⟩)]
        exact eb
      | pot => exact q
  · have old : ∀ {j : Nat} {u : Slot}, (sl.set i .un)[j]? = some u → isBox u = true → sl[j]? = some u := fun {j u} e b => by
      by_cases hj : j = i
      · subst hj
        rw [List.getElem?_set_self hi] at e
        cases e; cases b
      · rw [List.getElem?_set_ne (Ne.symm hj)] at e
        exact e
    exact R.inj j k u t (old e b) b (old e2 b2) b2
end
/-- x.append(e) -/
def appS (i : Nat) (f : Ev) (sl : Sl) (p : Pot) : Option Out := match sl[i]? with
  | some (.iso (.list ds)) => (match f sl p with
    | some (.sh _, p1) => if ds.length < sizeLine then some (.nx (sl.set i .un) p1) else none
    | _ => none)
  | some (.own (.list _)) => (match f sl p with
    | some (val, p1) => (match val.dat with
      | some (d, _) => (match (calm val sl)[i]? with
        | some (.own (.list ds)) => if ds.length < sizeLine then some (.nx ((calm val sl).set i (.own (.list (ds ++ [d])))) p1) else none
        | _ => none)
      | none => none)
    | none => none)
  | _ => none
/-- x.extend(e) -/
def extS (i : Nat) (f : Ev) (sl : Sl) (p : Pot) : Option Out := match sl[i]? with
  | some (.own (.list ds)) => (match f sl p with
    | some (val, p1) => (match val.dat, val.items with
      | some (.list _, _), some (es, true) => if ds.length + es.length ≤ sizeLine then some (.nx (sl.set i (.own (.list (ds ++ es)))) p1) else none
      | _, _ => none)
    | none => none)
  | _ => none
section
variable {X : Cx} {e : Expr} {f : Ev} {pos cpos apos np : Pos} {x : Str}
theorem cs_append (i : Nat) (he : CE X e f) (hN : X.N[i]? = some x := by rfl) (hv : Vis X.env.scope x := by first | exact Or.inl rfl | exact Or.inr (Or.inl rfl) | exact Or.inr (Or.inr rfl)) (hd : (x == ("__debug__" : Str)) = false := by decide) (hcd : (x == ("__classdict__" : Str)) = false := by decide)
    (h1 : starEach [e] X.env = (false, eval e X.env) :: starEach [] X.env := by rfl) (h2 : attributeBase (.Name x np) "append" X.env (eval (.Name x np) X.env) = eval (.Name x np) X.env := by rfl)
    (h3 : (((backTo cpos (starEach [e] X.env)).all fun x => !x.fst) && (backToKw cpos (keywordEach [] X.env)).all (fun x => x.fst.isSome) && decide (([e] : List Expr).length + ([] : List Keyword).length + (if ([] : List Keyword).isEmpty = true then 0 else 1) < 30)) = true := by rfl)
    (h4 : (apos.endLine == cpos.line) = true := by rfl) (h5 : ((backTo cpos (starEach [] X.env)).any fun x => x.fst) = false := by rfl)
    (hs : swapsWith (.Call (.Attribute (.Name x np) "append" apos) [e] [] cpos) none pos.line X.env = pure false := by rfl) :
    CS X (.Expr (.Call (.Attribute (.Name x np) "append" apos) [e] [] cpos) pos) (appS i f) :=
  PSimp (ps_expr (pe_bm PySem.F.plainAttrs_list PySem.F.slot_list_append PySem.F.type_list_append mt_append (pe_var hN hv hd hcd) (ca_cons he ca_nil h1) h2 h3 h4 h1 h5) hs) fun D σ H h => by
    obtain ⟨F, O, A, sl, p, out, R, hf, q⟩ := h
    unfold appS at hf
    split at hf
    · rename_i ds ei
      obtain ⟨es, rc, oi, zi, ti⟩ := R.slot i _ ei
      simp only [RD] at rc
      obtain ⟨a0, vs0, ea0, na0, hl0, rs0⟩ := rc
      cases ea0
      refine ⟨_, es, .inl ⟨rfl, vs0, SqL.of hl0⟩, ?_⟩
      split at hf
      · rename_i d p1 e1
        split at hf
        · rename_i hz
          cases hf
          refine ⟨F, O, A, sl, p, _, _, R, args1 e1, fun vs H1 x1 r1 => ?_⟩
          obtain ⟨v, rfl, r⟩ := r1.one
          have hl1 := x1.keep _ _ (R.boxNe ei rfl) hl0
          obtain ⟨R2, T2⟩ := (R.exp x1).drop (o := .lst (vs0 ++ [v])) ei
          exact ⟨A i, vs0, v, rfl, rfl, hl1, by rw [rs0.length]; exact hz, q O A σ _ R2 ((R.tr x1).trans T2)⟩
        · cases hf
      · cases hf
    · rename_i ds0 ei
      obtain ⟨es, rc, oi, zi⟩ := R.slot i _ ei
      obtain ⟨vs0, hl0, _⟩ := id rc
      refine ⟨_, es, .inl ⟨rfl, vs0, SqL.of hl0⟩, ?_⟩
      split at hf
      · rename_i val p1 e1
        split at hf
        · rename_i d cc e2
          split at hf
          · rename_i ds e3
            split at hf
            · rename_i hz
              cases hf
              refine ⟨F, O, A, sl, p, _, _, R, args1 e1, fun vs H1 x1 r1 => ?_⟩
              obtain ⟨v, rfl, r⟩ := r1.one
              obtain ⟨O', R', rd, sub⟩ := calm_ok R (R.exp x1) r e2
              obtain ⟨es', rc', oi', zi'⟩ := R'.slot i _ e3
              obtain ⟨us, hl, rs⟩ := rc'
              refine ⟨A i, us, v, rfl, rfl, hl, by rw [rs.length]; exact hz, ?_⟩
              refine q O' A σ _ (R'.write e3 ⟨us ++ [v], upd_same, (rs.append (.cons rd .nil)).map (R'.mapW e3)⟩) ?_
              exact ((R.tr x1).trans (tr_sub sub)).trans (R'.trW e3)
            · cases hf
          · cases hf
        · cases hf
      · cases hf
    · cases hf
theorem cs_extend (i : Nat) (he : CE X e f) (hN : X.N[i]? = some x := by rfl) (hv : Vis X.env.scope x := by first | exact Or.inl rfl | exact Or.inr (Or.inl rfl) | exact Or.inr (Or.inr rfl)) (hd : (x == ("__debug__" : Str)) = false := by decide) (hcd : (x == ("__classdict__" : Str)) = false := by decide)
    (h1 : starEach [e] X.env = (false, eval e X.env) :: starEach [] X.env := by rfl) (h2 : attributeBase (.Name x np) "extend" X.env (eval (.Name x np) X.env) = eval (.Name x np) X.env := by rfl)
    (h3 : (((backTo cpos (starEach [e] X.env)).all fun x => !x.fst) && (backToKw cpos (keywordEach [] X.env)).all (fun x => x.fst.isSome) && decide (([e] : List Expr).length + ([] : List Keyword).length + (if ([] : List Keyword).isEmpty = true then 0 else 1) < 30)) = true := by rfl)
    (h4 : (apos.endLine == cpos.line) = true := by rfl) (h5 : ((backTo cpos (starEach [] X.env)).any fun x => x.fst) = false := by rfl)
    (hs : swapsWith (.Call (.Attribute (.Name x np) "extend" apos) [e] [] cpos) none pos.line X.env = pure false := by rfl) :
    CS X (.Expr (.Call (.Attribute (.Name x np) "extend" apos) [e] [] cpos) pos) (extS i f) :=
  PSimp (ps_expr (pe_bm PySem.F.plainAttrs_list PySem.F.slot_list_extend PySem.F.type_list_extend mt_extend (pe_var hN hv hd hcd) (ca_cons he ca_nil h1) h2 h3 h4 h1 h5) hs) fun D σ H h => by
    obtain ⟨F, O, A, sl, p, out, R, hf, q⟩ := h
    unfold extS at hf
    split at hf
    · rename_i ds ei
      obtain ⟨es, rc, oi, zi⟩ := R.slot i _ ei
      obtain ⟨vs0, hl0, _⟩ := id rc
      refine ⟨_, es, .inl ⟨rfl, vs0, SqL.of hl0⟩, ?_⟩
      split at hf
      · rename_i val p1 e1
        split at hf
        · rename_i d0 c0 ws e2 e3
          split at hf
          · rename_i hz
            cases hf
            refine ⟨F, O, A, sl, p, _, _, R, args1 e1, fun vs H1 x1 r1 => ?_⟩
            obtain ⟨v, rfl, r⟩ := r1.one
            have R1 := R.exp x1
            obtain ⟨a, us, rfl, t, rw'⟩ := r.items R R1 e3
            obtain ⟨_, rc1, _, _⟩ := R1.slot i _ ei
            obtain ⟨vs, hl, rs⟩ := rc1
            rcases t with ⟨_, _, ha⟩ | ⟨_, e4, _⟩
            · refine ⟨A i, a, vs, us, rfl, rfl, hl, ha, by rw [rs.length, rw'.length]; exact hz, ?_⟩
              exact q O A σ _ (R1.write ei ⟨vs ++ us, upd_same, RDs.map (R1.mapW ei) (rs.append rw')⟩) ((R.tr x1).trans (R1.trW ei))
            · rw [e2] at e4; cases e4
          · cases hf
        · cases hf
      · cases hf
    · cases hf
/-- a, b, .. = e, e a tuple -/
def unpS (ts : List Tg) (f : Ev) (sl : Sl) (p : Pot) : Option Out := match f sl p with
  | some (val, p1) => (match val.dat with
    | some (d, _) => (match asgD (.tp ts) d (calm val sl) with
      | some sl' => some (.nx sl' p1)
      | none => none)
    | none => none)
  | none => none
theorem cs_unp {tg : Expr} {ts : List Tg} (he : CE X e f) (hg : CG X tg (.tp ts)) (hs : swapsWithSole [tg] e pos.line X.env = pure false := by rfl) (hw : swappedStores [tg] e X.env = pure none := by rfl)
    (h1 : (assignEach [tg] X.env).map (·.2) = [assign tg X.env] := by rfl) : CS X (.Assign [tg] e pos) (unpS ts f) := PSimp (ps_asg he hg hs hw h1) fun D σ H h => by
  obtain ⟨F, O, A, sl, p, out, R, hf, q⟩ := h
  unfold unpS at hf
  split at hf
  · rename_i val p1 e1
    split at hf
    · rename_i d c e2
      split at hf
      · rename_i sl' e3
        cases hf
        refine tE.get R e1 fun v H1 x1 r1 => ?_
        obtain ⟨O', R', rd, sub⟩ := calm_ok R (R.exp x1) r1 e2
        exact ⟨F, O', A, _, _, d, sl', R', rd, e3, fun σ2 R2 _ => q O' A σ2 H1 R2 ((R.tr x1).trans (tr_sub sub))⟩
      · cases hf
    · cases hf
  · cases hf
end
end Pu
namespace Pu
open PySem PySem.Spec PyProof.Rows L2

/-! ### what a def is worth -/
abbrev Fn := List Slot → Pot → Option (Val × Pot)
def ArgsR (K : Fg) (Oc : Pred) (ap : Addr) (H : Hp) : List Slot → List V → Prop
  | [], [] => True
  | .sh d :: as, v :: vs => RD K Oc H d v ∧ ArgsR K Oc ap H as vs
  | .pot :: as, v :: vs => v = .ref ap ∧ ArgsR K Oc ap H as vs
  | _, _ => False
theorem ArgsR.length {K : Fg} {Oc : Pred} {ap : Addr} {H : Hp} : ∀ {as : List Slot} {vs : List V}, ArgsR K Oc ap H as vs → vs.length = as.length
  | [], [], _ => rfl
  | .sh d :: as, v :: vs, h => by simp [ArgsR.length h.2]
  | .pot :: as, v :: vs, h => by simp [ArgsR.length h.2]
  | [], _ :: _, h => h.elim
  | .sh _ :: _, [], h => h.elim
  | .pot :: _, [], h => h.elim
  | .un :: _, [], h => h.elim
  | .un :: _, _ :: _, h => h.elim
  | .own _ :: _, [], h => h.elim
  | .own _ :: _, _ :: _, h => h.elim
  | .iso _ :: _, [], h => h.elim
  | .iso _ :: _, _ :: _, h => h.elim
def spF (K : Fg) (n : Nat) (G : Fn) (vs : List V) (H : Hp) (Q : VK) : Prop := vs.length = n ∧ ∃ (ap : Addr) (Oc : Pred) (as : List Slot) (p : Pot) (val : Val) (p' : Pot), (∀ b, Oc b → H b ≠ none) ∧ Oc ap ∧ H ap = some (.lst [.int p.1, .int p.2]) ∧
  ArgsR K Oc ap H as vs ∧ G as p = some (val, p') ∧ ∀ v H', RetR K ⟨ap, H, Oc⟩ val v H' p' → Q v H'
/-- the def at f answers as G says, wherever no repr is under way -/
structure FnG (P : Program) (w : World) (K : Fg) (mg : Str → Option Value) (base : Heap) (k : Nat) (f : Addr) (fd : FuncData) (ps : List Str) (G : Fn) : Prop where
  run : ∀ (A : Around) (outer : List Env) (s : Shared) (H : Hp) (args : Args) (us : List Value) (vs : List V) (Q : VK), A.guards = some [] → Room k A → Env0 P w K mg base A outer s H → BindsTo s fd args (ps.zip us) → Vals vs us → spF K ps.length G vs H Q →
    codeAny (model P w) A (.call (.ref f) args) (CR CX0 outer P w H s Q E0) s
theorem FnG.mono {P : Program} {w : World} {K : Fg} {mg : Str → Option Value} {base : Heap} {j k : Nat} {f : Addr} {fd : FuncData} {ps : List Str} {G : Fn} (F : FnG P w K mg base j f fd ps G) (h : j ≤ k) : FnG P w K mg base k f fd ps G :=
  ⟨fun A outer s H args us vs Q hg hr => F.run A outer s H args us vs Q hg (hr.mono h)⟩

/-! ### calls of such defs -/
def argsOf : List Val → Option (List Slot × Bool)
  | [] => some ([], true)
  | .pot :: xs => (match argsOf xs with
    | some (as, c) => some (.pot :: as, c)
    | none => none)
  | x :: xs => match x.dat, argsOf xs with
    | some (d, c), some (as, c') => some (.sh d :: as, c && c')
    | _, _ => none
def flatA : List Slot → Bool
  | [] => true
  | .sh d :: as => flat d && flatA as
  | .pot :: as => flatA as
  | _ => false
def isL : PyData → Bool
  | .list _ => true
  | _ => false
def resV (c : Bool) (as : List Slot) : Val → Val
  | .sh d => if flat d = true then .sh d else if (c && flatA as && isL d) = true then .is d else shq c d
  | .fr d => if c = true then .fr d else .bo d
  | v => v
def callF (G : Fn) (fs : List Ev) (sl : Sl) (p : Pot) : Option (Val × Pot) := match argsE fs sl p with
  | some (xs, p1) => (match argsOf xs with
    | some (as, c) => (match G as p1 with
      | some (val, p2) => some (resV c as val, p2)
      | none => none)
    | none => none)
  | none => none
section
variable {K : Fg} {F : Fc} {O : Pred} {A : Nat → Addr} {sl : Sl} {p p' p1 : Pot} {σ : L2.St} {H H' H1 : Hp}
theorem args_ok (R : Rl K F O A sl p σ H) (R' : Rl K F O A sl p' σ H') : ∀ {vs : List V} {xs : List Val} {as : List Slot} {c : Bool}, VRs K F O A sl H H' vs xs → argsOf xs = some (as, c) → ArgsR K (Oq O A sl c) F.ap H' as vs
  | [], [], _, _, _, e => by cases e; exact True.intro
  | v :: vs, x :: xs, as, c, h, e => by
    have weak : ∀ {as : List Slot} {vs : List V} {c1 c2 : Bool}, ArgsR K (Oq O A sl c2) F.ap H' as vs → ArgsR K (Oq O A sl (c1 && c2)) F.ap H' as vs := fun {as vs c1 c2} => by
      intro h
      induction as generalizing vs with
      | nil => cases vs with
        | nil => exact h
        | cons _ _ => exact h.elim
      | cons a as ih =>
        cases vs with
        | nil => cases a <;> exact h.elim
        | cons v vs =>
          cases a with
          | sh d => exact ⟨RD.both' h.1, ih h.2⟩
          | pot => exact ⟨h.1, ih h.2⟩
          | _ => exact h.elim
    have gen : ∀ (d : PyData) (c1 : Bool) (as' : List Slot) (c2 : Bool), x.dat = some (d, c1) → argsOf xs = some (as', c2) → ArgsR K (Oq O A sl (c1 && c2)) F.ap H' (.sh d :: as') (v :: vs) := fun d c1 as' c2 e1 e2 =>
      ⟨RD.both (h.1.dat R R' e1), weak (args_ok R R' h.2 e2)⟩
    cases x with
    | pot =>
      simp only [argsOf] at e
      split at e
      · rename_i as' c' e2
        cases e
        exact ⟨h.1, args_ok R R' h.2 e2⟩
      · cases e
    | sh d => simp only [argsOf] at e; split at e <;> first | (rename_i e1 e2; cases e; exact gen _ _ _ _ e1 e2) | cases e
    | bo d => simp only [argsOf] at e; split at e <;> first | (rename_i e1 e2; cases e; exact gen _ _ _ _ e1 e2) | cases e
    | fr d => simp only [argsOf] at e; split at e <;> first | (rename_i e1 e2; cases e; exact gen _ _ _ _ e1 e2) | cases e
    | ow i d => simp only [argsOf] at e; split at e <;> first | (rename_i e1 e2; cases e; exact gen _ _ _ _ e1 e2) | cases e
    | is d => simp only [argsOf] at e; split at e <;> first | (rename_i e1 e2; cases e; exact gen _ _ _ _ e1 e2) | cases e
  | [], _ :: _, _, _, h, _ => h.elim
  | _ :: _, [], _, _, h, _ => h.elim
theorem args_flat {O1 O2 : Pred} {ap : Addr} : ∀ {as : List Slot} {vs : List V}, flatA as = true → ArgsR K O1 ap H as vs → ArgsR K O2 ap H as vs
  | [], [], _, _ => True.intro
  | .sh d :: as, v :: vs, f, h => by
    simp only [flatA, Bool.and_eq_true] at f
    exact ⟨h.1.flat f.1, args_flat f.2 h.2⟩
  | .pot :: as, v :: vs, f, h => ⟨h.1, args_flat f h.2⟩
  | [], _ :: _, _, h => h.elim
  | .sh _ :: _, [], _, h => h.elim
  | .pot :: _, [], _, h => h.elim
  | .un :: _, _, f, _ => by cases f
  | .own _ :: _, _, f, _ => by cases f
  | .iso _ :: _, _, f, _ => by cases f
theorem argsE_len : ∀ {fs : List Ev} {sl : Sl} {p p' : Pot} {xs : List Val}, argsE fs sl p = some (xs, p') → xs.length = fs.length
  | [], _, _, _, _, e => by cases e; rfl
  | f :: fs, sl, p, p', xs, e => by
    simp only [argsE] at e
    split at e
    · split at e
      · rename_i e5
        cases e
        simp [argsE_len e5]
      · cases e
    · cases e
theorem argsOf_len : ∀ {xs : List Val} {as : List Slot} {c : Bool}, argsOf xs = some (as, c) → as.length = xs.length
  | [], _, _, e => by cases e; rfl
  | x :: xs, as, c, e => by
    cases x with
    | pot =>
      simp only [argsOf] at e
      split at e
      · rename_i e2; cases e; simp [argsOf_len e2]
      · cases e
    | _ =>
      simp only [argsOf] at e
      split at e
      · rename_i e2; cases e; simp [argsOf_len e2]
      · cases e
/-- from the caller's reading to the callee's promise, and back -/
theorem call_ok {G : Fn} {n : Nat} {vs : List V} {xs : List Val} {as : List Slot} {c : Bool} {val : Val} {Q : VK} (R : Rl K F O A sl p σ H) (x1 : Ex F H H1 p1) (rs : VRs K F O A sl H H1 vs xs) (e1 : argsOf xs = some (as, c)) (e2 : G as p1 = some (val, p')) (hn : as.length = n)
    (q : ∀ v H', Ex F H H' p' → VR K F O A sl H H' v (resV c as val) → Q v H') : spF K n G vs H1 Q := by
  have R1 := R.exp x1
  have ar := args_ok R R1 rs e1
  refine ⟨by rw [ar.length]; exact hn, ?_⟩
  have exOf : ∀ {Oc : Pred} {v : V} {H' : Hp}, RetR K ⟨F.ap, H1, Oc⟩ val v H' p' → Ex F H1 H' p' := fun h => ⟨h.1, h.2.1⟩
  by_cases up : (c && flatA as) = true ∧ ∃ ds, val = .sh (.list ds)
  · obtain ⟨u1, ds, rfl⟩ := up
    simp only [Bool.and_eq_true] at u1
    refine ⟨F.ap, fun b => H1 b ≠ none, as, p1, _, p', fun b h => h, R1.potNe, R1.pot, args_flat u1.2 ar, e2, fun v H' h => ?_⟩
    have x2 := exOf h
    refine q v H' (x1.trans x2) ?_
    have er : resV c as (.sh (.list ds)) = .is (.list ds) := by
      simp only [resV]
      rw [if_neg (by simp [flat]), if_pos (by simp [u1.1, u1.2, isL])]
    rw [er]
    have rd := h.2.2
    have rd' : RD K (fun b => H1 b ≠ none) H' (.list ds) v := rd
    simp only [RD] at rd
    obtain ⟨a, us, rfl, na, ha, _⟩ := rd
    have n1 : H1 a = none := Classical.not_not.mp na
    have r0 : VR K F O A sl H1 H' (.ref a) (.is (.list ds)) := ⟨a, rfl, n1, by rw [ha]; exact fun z => (nomatch z), rd'.map fun b y nb e => ⟨fun z => nb (R1.dom b z), e⟩⟩
    exact r0.back x1
  · refine ⟨F.ap, Oq O A sl c, as, p1, val, p', fun b h => R1.dom b (by
      cases c with
      | true => exact h
      | false => exact h.1), R.apQ c, R1.pot, ar, e2, fun v H' h => ?_⟩
    have x2 := exOf h
    refine q v H' (x1.trans x2) ?_
    have no : ∀ q0, H1 q0 = none → ¬ Oq O A sl c q0 := fun q0 n z => R1.dom q0 (by
      cases c with
      | true => exact z
      | false => exact z.1) n
    cases val with
    | sh d =>
      have rd : RD K (Oq O A sl c) H' d v := h.2.2
      simp only [resV]
      by_cases f : flat d = true
      · rw [if_pos f]
        exact RD.flat f rd
      · rw [if_neg f]
        by_cases g : (c && flatA as && isL d) = true
        · exfalso
          simp only [Bool.and_eq_true] at g
          cases d with
          | list ds => exact up ⟨by simp [g.1.1, g.1.2], ds, rfl⟩
          | _ => cases g.2
        · rw [if_neg g]
          exact VR.shq rd
    | fr d =>
      obtain ⟨q0, rfl, n0, rc⟩ := h.2.2
      simp only [resV]
      cases c with
      | true =>
        have r0 : VR K F O A sl H1 H' (.ref q0) (.fr d) := ⟨q0, rfl, n0, rc⟩
        exact r0.back x1
      | false => exact RC.rd (O := Ob O A sl) (rc.map (fun b y nb e => ⟨fun z => nb (.inl z), e⟩) fun _ z => z) (no q0 n0)
    | pot => exact h.2.2
    | bo d => exact h.2.2.elim
    | ow i d => exact h.2.2.elim
    | is d => exact h.2.2.elim
end
section
variable {X : Cx} {k : Nat} {f : Addr} {fd : FuncData} {ps : List Str} {G : Fn} {x : Str} {e : Expr} {es : List Expr} {fs : List Ev} {pos pn : Pos} {ds : List Value}
theorem run_fnG {pins : List (Addr × Obj)} {σ : L2.St} {H : Hp} {s : Shared} {Q : VK} {us : List Value} {vs : List V} (F : FnG X.prog X.w X.K X.mg X.base k f fd ps G) (hgd : X.A.guards = some []) (hr : Room k X.A) (hb : Binds X.K fd ps [])
    (I : Inv X pins σ H s) (r : Vals vs us) (h : spF X.K ps.length G vs H Q) : wpAny (model X.prog X.w) X.A (call (.ref f) us) (EP X pins σ Q) X.xe s := by
  have hl : us.length = ps.length := r.length.symm.trans h.1
  have bt := hb s us I.kIn (by rw [List.append_nil]; exact hl)
  rw [List.append_nil] at bt
  refine wpAny_call (codeAny_mono (F.run X.A X.stack s H ⟨us, []⟩ us vs Q hgd hr I.env0 bt r h) fun res s' hq => ?_)
  cases res with
  | error _ => exact hq.elim
  | ok fl => cases fl with
    | ret u => exact I.after hq
    | _ => exact hq.elim
/-- f(e, ..) -/
theorem ce_call (F : FnG X.prog X.w X.K X.mg X.base k f fd ps G) (hgd : X.A.guards = some []) (hr : Room k X.A) (hm : X.mg x = some (.ref f)) (hk : PySem.W.keepIn X.K (.ref f) = true) (hb : Binds X.K fd ps []) (ha : CA X (e :: es) fs) (hlen : fs.length = ps.length := by rfl)
    (hg : Gl X x := by rfl) (hdb : (x == ("__debug__" : Str)) = false := by decide) (he : starEach (e :: es) X.env = (false, eval e X.env) :: starEach es X.env := by rfl) (hpl : (backTo pos (starEach es X.env)).any (·.1) = false := by rfl) :
    CE X (.Call (.Name x pn) (e :: es) [] pos) (callF G fs) := by
  refine ⟨fun pins s σ H Q I h => ?_⟩
  obtain ⟨Fc, O, A, sl, p, val, p', R, hf, q⟩ := h
  unfold callF at hf
  split at hf
  · rename_i xs p1 e1
    split at hf
    · rename_i as c e2
      split at hf
      · rename_i v0 p2 e3
        cases hf
        refine wpAny_Call_Name_kw (ld_glob I hg hm ?_ hdb)
        have pa := ha.run pos pins s σ H (fun vs H1 => spF X.K ps.length G vs H1 Q) I ⟨Fc, O, A, sl, p, xs, p1, R, e1, fun vs H1 x1 r1 => ?_⟩
        · exact PySem.W.callWith_K (h₀ := X.base) I.ok.mod.kin hk (thn pa fun us s1 ⟨vs, H1, I1, r, w⟩ => ⟨I1.kIn, run_fnG F hgd hr hb I1 r w⟩) he hpl
        · refine call_ok R x1 r1 e2 e3 ?_ q
          rw [argsOf_len e2, argsE_len e1, hlen]
      · cases hf
    · cases hf
  · cases hf
end
end Pu
namespace Pu
open PySem PySem.Spec PyProof.Rows L2

def fillSl (n : Nat) (as : List Slot) : Sl := as ++ List.replicate (n - as.length) .un
/-- what a body is worth -/
def defF (n : Nat) (s : Sm) (as : List Slot) (p : Pot) : Option (Val × Pot) := match s (fillSl n as) p with
  | some (.rt v p') => some (v, p')
  | some (.nx _ p') => some (.sh .none, p')
  | _ => none
theorem args_slot {K : Fg} {Oc : Pred} {ap : Addr} {H : Hp} {n : Nat} : ∀ {as : List Slot} {vs : List V} {i : Nat} {s : Slot}, ArgsR K Oc ap H as vs → (as ++ List.replicate n Slot.un)[i]? = some s →
    (isBox s = false) ∧ (match s with
      | .sh d => ∃ v, (vs.map some ++ List.replicate n none : L2.St)[i]? = some (some v) ∧ RD K Oc H d v
      | .pot => (vs.map some ++ List.replicate n none : L2.St)[i]? = some (some (.ref ap))
      | .un => True
      | _ => False)
  | [], [], i, s, _, e => by
    simp only [List.nil_append, List.getElem?_replicate] at e
    split at e
    · cases e; exact ⟨rfl, True.intro⟩
    · cases e
  | .sh d :: as, v :: vs, 0, s, h, e => by
    simp at e; subst e
    exact ⟨rfl, v, rfl, h.1⟩
  | .pot :: as, v :: vs, 0, s, h, e => by
    simp at e; subst e
    refine ⟨rfl, ?_⟩
    have := h.1
    subst this
    rfl
  | .sh d :: as, v :: vs, i + 1, s, h, e => by simpa using args_slot (i := i) h.2 (by simpa using e)
  | .pot :: as, v :: vs, i + 1, s, h, e => by simpa using args_slot (i := i) h.2 (by simpa using e)
  | [], _ :: _, _, _, h, _ => h.elim
  | .sh _ :: _, [], _, _, h, _ => h.elim
  | .pot :: _, [], _, _, h, _ => h.elim
  | .un :: _, [], _, _, h, _ => h.elim
  | .un :: _, _ :: _, _, _, h, _ => h.elim
  | .own _ :: _, [], _, _, h, _ => h.elim
  | .own _ :: _, _ :: _, _, _, h, _ => h.elim
  | .iso _ :: _, [], _, _, h, _ => h.elim
  | .iso _ :: _, _ :: _, _, _, h, _ => h.elim
theorem entry {K : Fg} {Oc : Pred} {ap : Addr} {H : Hp} {as : List Slot} {vs : List V} {p : Pot} {n m : Nat} (hd : ∀ b, Oc b → H b ≠ none) (ho : Oc ap) (hp : H ap = some (.lst [.int p.1, .int p.2])) (h : ArgsR K Oc ap H as vs) :
    Rl K ⟨ap, H, Oc⟩ Oc (fun _ => 0) (as ++ List.replicate n .un) p (vs.map some ++ List.replicate n none) H := by
  refine ⟨hd, fun _ h => h, hd, ho, fun _ _ _ e => e, hp, fun i s e => ?_, fun i j s t e b _ _ _ => ?_, ?_⟩
  · have q := (args_slot h e).2
    cases s with
    | un => exact True.intro
    | sh d => exact q
    | pot => exact q
    | own c => exact q.elim
    | iso c => exact q.elim
  · rw [(args_slot h e).1] at b; cases b
  · simp [h.length]
section
variable {P : Program} {w : World} {K : Fg} {mg : Str → Option Value} {base : Heap}
abbrev bodyX (P : Program) (w : World) (K : Fg) (mg : Str → Option Value) (base : Heap) (N : List Str) (qual : Str) (st : Stmt) (f : Addr) (cdv : Value) (A : Around) (outer : List Env) (s : Shared) (H : Hp) (E : XK) : Cx :=
  (cxOf CX0 P w K mg base N qual (defScope st) f cdv A outer s H E).nox
/-- THE RULE: a def by its body's reading -/
theorem FnG.of {x qual : Str} {st : Stmt} {f : Addr} {fd : FuncData} {N ps : List Str} {k : Nat} {sm : Sm} (F : Fun K x qual st f fd) (S : FnScope N ps (defScope st))
    (hbody : ∀ (cdv : Value) (A : Around) (outer : List Env) (s : Shared) (H : Hp), (bodyX P w K mg base N qual st f cdv A outer s H E0).A.guards = some [] → Room k (bodyX P w K mg base N qual st f cdv A outer s H E0).A →
      CB (bodyX P w K mg base N qual st f cdv A outer s H E0) (defBody st) sm) : FnG P w K mg base (k + 1) f fd ps (defF N.length sm) := by
  obtain ⟨oc, od, kV, doc, pm, an, cdv, ct, osl, rfl, lk, hcd⟩ := F.ex
  refine ⟨fun A outer s H args us vs Q hgd hr e0 hb r hsp => ?_⟩
  obtain ⟨hl, ap, Oc, as, p, val, p', hdm, hoc, hpot, har, hG, hQ⟩ := hsp
  have KX : K.In s.heap := e0.mod.kin.keeps fun b o e => (e0.bs b o e).1
  have lim : s.heap.NoLimit := e0.mod.nolimit.keeps fun b o e => (e0.bs b o e).1
  have kinds : ∀ y ∈ ps.zip us, (defScope st).names.lookup y.1 = some .local ∨ ((defScope st).names.lookup y.1 = some .cell ∧ ((cellsFrom (s.heap.objs.size + 1) (defScope st).names []).lookup y.1).isSome = true) := by
    rintro ⟨n, v⟩ hy
    have q := S.par n (List.of_mem_zip hy).1
    exact q.elim .inl fun z => .inr ⟨z, PySem.W.cellsFrom_some _ _ _ (.inl z)⟩
  refine codeAny_call_function hr.depth (KX _ _ lk) rfl S.co S.gen rfl (PySem.W.codeRec_of KX hcd) (hb _ _ _ _ ?_)
  refine wpAny_newFunctionEnv_cells S.kind kinds fun env he s1 x1 => ?_
  subst he
  refine ⟨lim.keeps x1.toInCall.keep, codeAny_func ?_⟩
  have hr' : Room k (A.deeper (envOfC qual (defScope st) s.heap.objs.size f cdv)) := hr.deeper _
  have body := hbody cdv A outer s H hgd hr'
  have I := inv_start (CX := CX0) (E := E0) S hr.hd e0 hl r x1
  -- the reading
  have hN : ps.length ≤ N.length := by
    have e := congrArg List.length S.pre
    rw [List.length_take] at e
    omega
  have la := har.length
  have R := entry (n := N.length - vs.length) (m := 0) hdm hoc hpot har
  have rd : tS K sm { nx := fun _ H' => Q .non H', rt := Q } (start N vs) H := by
    unfold defF at hG
    have hf : fillSl N.length as = as ++ List.replicate (N.length - vs.length) .un := by unfold fillSl; rw [la]
    rw [hf] at hG
    split at hG
    · rename_i v1 p1 e1
      cases hG
      exact ⟨_, Oc, _, _, p, _, R, e1, hQ⟩
    · rename_i sl1 p1 e1
      cases hG
      exact ⟨_, Oc, _, _, p, _, R, e1, fun O' A' σ' H' R' T => hQ .non H' ⟨R'.ext, R'.pot, by show RD K Oc H' .none .non; simp only [RD]⟩⟩
    · cases hG
  have walked := body.nox.run [] s1 (start N vs) H { nx := fun _ H' => Q .non H', rt := Q } I rd
  refine wpAny_mono walked (fun fl s' hs => ?_) fun e s' hs => hs
  have fin : ∀ {σ' : L2.St} {H' : Hp} {v : V} {u : Value}, Inv (cxOf CX0 P w K mg base N qual (defScope st) f cdv A outer s H E0) [] σ' H' s' → RelV v u → Q v H' → L2.CE outer P w H s Q u s' :=
    fun {σ' H' v u} J rv q => ⟨v, H', J.os, J.bare, J.base, J.hok, rv, q⟩
  cases fl with
  | next => obtain ⟨σ', H', J, q⟩ := hs; exact fin (v := V.non) (u := Value.none) J rfl q
  | ret u => obtain ⟨v, σ', H', J, rv, q⟩ := hs; exact fin J rv q
  | brk => obtain ⟨_, _, _, q⟩ := hs; exact q.elim
  | cont => obtain ⟨_, _, _, q⟩ := hs; exact q.elim
end
end Pu
namespace Pu
open PySem PySem.Spec PyProof.Rows L2

/-! ### several values at once: each one knows nothing of the new containers of the others -/
def VP (K : Fg) (F : Fc) (O : Pred) (H H' : Hp) (v : V) : Val → Prop
  | .sh d => RD K O H' d v
  | .is d => RD K O H' d v
  | .fr c => ∃ q, v = .ref q ∧ H q = none ∧ RC K O H' c q ∧ O q
  | .pot => v = .ref F.ap
  | _ => True
/-- none of the new containers is at q -/
def NotAt (q : Addr) : List V → List Val → Prop
  | v :: vs, .fr _ :: xs => v ≠ .ref q ∧ NotAt q vs xs
  | _ :: vs, _ :: xs => NotAt q vs xs
  | _, _ => True
def VPs (K : Fg) (F : Fc) (O : Pred) (H H' : Hp) : List V → List Val → Prop
  | [], [] => True
  | v :: vs, x :: xs => VP K F O H H' v x ∧ (∀ c q, x = .fr c → v = .ref q → NotAt q vs xs) ∧ VPs K F O H H' vs xs
  | _, _ => False
def tP (K : Fg) (fs : List Ev) : TA := fun σ H Q => ∃ F O A sl p xs p', Rl K F O A sl p σ H ∧ argsE fs sl p = some (xs, p') ∧
  ∀ vs H' O', Rl K F O' A sl p' σ H' → Tr O H O' H' → (∀ b, O b → O' b) → (∃ p2, Ex F H H' p2) → VPs K F O' H H' vs xs → Q vs H'
abbrev CP (X : Cx) (es : List Expr) (fs : List Ev) : Prop := PA X es (tP X.K fs)
theorem VPs.notAt {K : Fg} {F : Fc} {O : Pred} {H H' : Hp} {q : Addr} (h : H q ≠ none) : ∀ {vs : List V} {xs : List Val}, VPs K F O H H' vs xs → NotAt q vs xs
  | [], [], _ => True.intro
  | v :: vs, x :: xs, r => by
    have ih := VPs.notAt h r.2.2
    cases x with
    | fr c =>
      obtain ⟨q', e, n, _⟩ := r.1
      exact ⟨fun z => h (by rw [e] at z; cases z; exact n), ih⟩
    | _ => exact ih
  | [], _ :: _, r => r.elim
  | _ :: _, [], r => r.elim
theorem VPs.back {K : Fg} {F : Fc} {O : Pred} {H H1 H' : Hp} (nn : ∀ q, H1 q = none → H q = none) : ∀ {vs : List V} {xs : List Val}, VPs K F O H1 H' vs xs → VPs K F O H H' vs xs
  | [], [], _ => True.intro
  | v :: vs, x :: xs, r => by
    refine ⟨?_, r.2.1, VPs.back nn r.2.2⟩
    have h := r.1
    cases x with
    | fr c =>
      obtain ⟨q', e, n, rest⟩ := h
      exact ⟨q', e, nn q' n, rest⟩
    | _ => exact h
  | [], _ :: _, r => r.elim
  | _ :: _, [], r => r.elim
section
variable {X : Cx} {e : Expr} {es : List Expr} {f : Ev} {fs : List Ev}
theorem cp_nil : CP X [] [] := PAimp pa_nil fun σ H Q h => by
  obtain ⟨F, O, A, sl, p, xs, p', R, hf, q⟩ := h
  cases hf
  exact q [] H O R (Tr.refl O H) (fun _ h => h) ⟨_, Ex.refl R⟩ True.intro
theorem cp_cons (ha : CE X e f) (hr : CP X es fs) (hs : starEach (e :: es) X.env = (false, eval e X.env) :: starEach es X.env := by rfl) : CP X (e :: es) (f :: fs) := PAimp (pa_cons ha hr hs) fun σ H Q h => by
  obtain ⟨F, O, A, sl, p, vals, p', R, hf, q⟩ := h
  simp only [argsE] at hf
  split at hf
  · rename_i x p1 e1
    split at hf
    · rename_i xs p2 e2
      cases hf
      refine tE.get R e1 fun v H1 x1 r1 => ?_
      have R1 := R.exp x1
      have nn : ∀ q, H1 q = none → H q = none := fun q0 n => by
        cases z : H q0 with
        | none => rfl
        | some u =>
          by_cases w : q0 = F.ap
          · rw [w] at n; exact absurd n R1.potNe
          · rw [x1.keep q0 u w z] at n; cases n
      by_cases isf : ∃ c, x = .fr c
      · obtain ⟨c, rfl⟩ := isf
        obtain ⟨q0, rfl, n0, rc⟩ := r1
        obtain ⟨o0, ho⟩ := rc.there
        have t0 : H1 q0 ≠ none := by rw [ho]; exact fun z => nomatch z
        have R2 := R.add n0 x1 t0
        refine ⟨F, Oa O q0, A, sl, p1, xs, p', R2, e2, fun vs H2 O2 R3 T3 s3 ⟨p3, x3⟩ r3 => ?_⟩
        have nap : q0 ≠ F.ap := fun z => R.potNe (by rw [← z]; exact n0)
        refine q (.ref q0 :: vs) H2 O2 R3 (Tr.trans (O1 := Oa O q0) (H1 := H1) ⟨(R.tr x1).fr, fun b h => h.elim .inl fun z => .inr (by rw [z]; exact n0)⟩ T3) (fun b h => s3 b (.inl h)) ⟨p3, x1.trans x3⟩ ⟨⟨q0, rfl, n0, ?_, s3 q0 (.inr rfl)⟩, fun c' q' _ e' => ?_, r3.back nn⟩
        · exact rc.map (T3.map) (fun y hy => x3.keep _ _ nap hy)
        · cases e'
          exact VPs.notAt t0 r3
      · refine ⟨F, O, A, sl, p1, xs, p', R1, e2, fun vs H2 O2 R3 T3 s3 ⟨p3, x3⟩ r3 => ?_⟩
        refine q (v :: vs) H2 O2 R3 ((R.tr x1).trans T3) s3 ⟨p3, x1.trans x3⟩ ⟨?_, fun c' q' ec _ => absurd ⟨c', ec⟩ isf, r3.back nn⟩
        cases x with
        | sh d => exact RD.map T3.map r1
        | is d => obtain ⟨_, _, _, _, rd⟩ := r1; exact RD.map T3.map rd
        | fr c => exact absurd ⟨c, rfl⟩ isf
        | pot => exact r1
        | _ => exact True.intro
    · cases hf
  · cases hf
end
def asgP (i : Nat) (x : Val) (sl : Sl) : Option Sl := if i < sl.length then (match x with
  | .sh d => some (sl.set i (.sh d))
  | .is d => some (sl.set i (.sh d))
  | .fr c => some (sl.set i (.own c))
  | .pot => some (sl.set i .pot)
  | _ => none) else none
def asgPs : List Nat → List Val → Sl → Option Sl
  | [], [], sl => some sl
  | i :: is, x :: xs, sl => (match asgP i x sl with
    | some sl1 => asgPs is xs sl1
    | none => none)
  | _, _, _ => none
def setAll (σ : L2.St) : List Nat → List V → L2.St
  | i :: is, v :: vs => setAll (σ.set i (some v)) is vs
  | _, _ => σ
section
variable {K : Fg} {F : Fc} {O : Pred} {p : Pot} {H H' : Hp}
theorem asgPs_ok : ∀ {is : List Nat} {vs : List V} {xs : List Val} {A : Nat → Addr} {sl sl' : Sl} {σ : L2.St}, Rl K F O A sl p σ H' → VPs K F O H H' vs xs → (∀ b, F.H0 b ≠ none → H b ≠ none) → (∀ j t, sl[j]? = some t → isBox t = true → NotAt (A j) vs xs) → asgPs is xs sl = some sl' →
    ∃ A', Rl K F O A' sl' p (setAll σ is vs) H'
  | [], [], [], A, sl, sl', σ, R, _, _, _, e => by simp only [asgPs] at e; cases e; exact ⟨A, R⟩
  | i :: is, v :: vs, x :: xs, A, sl, sl', σ, R, r, h0, nb, e => by
    simp only [asgPs] at e
    split at e
    · rename_i sl1 e1
      obtain ⟨rv, rn, rr⟩ := r
      unfold asgP at e1
      split at e1
      · rename_i hi
        have nb' : ∀ {s : Slot}, isBox s = false → ∀ j t, (sl.set i s)[j]? = some t → isBox t = true → NotAt (A j) (v :: vs) (x :: xs) := fun {s} bs j t ej bj => by
          by_cases z : j = i
          · subst z
            rw [List.getElem?_set_self hi] at ej
            cases ej
            rw [bs] at bj; cases bj
          · rw [List.getElem?_set_ne (Ne.symm z)] at ej
            exact nb j t ej bj
        have tail : ∀ {q : Addr}, NotAt q (v :: vs) (x :: xs) → NotAt q vs xs := fun {q} h => by
          cases x with
          | fr c => exact h.2
          | _ => exact h
        cases x with
        | sh d => cases e1; exact asgPs_ok (is := is) (vs := vs) (xs := xs) (R.setSh hi rv) rr h0 (fun j t ej bj => tail (nb' rfl j t ej bj)) e
        | is d => cases e1; exact asgPs_ok (is := is) (vs := vs) (xs := xs) (R.setSh hi rv) rr h0 (fun j t ej bj => tail (nb' rfl j t ej bj)) e
        | pot => cases e1; exact asgPs_ok (is := is) (vs := vs) (xs := xs) (R.setN hi rfl fun σ es => by rw [show v = .ref F.ap from rv] at es; exact es) rr h0 (fun j t ej bj => tail (nb' rfl j t ej bj)) e
        | fr c =>
          cases e1
          obtain ⟨q, rfl, n, rc, oq⟩ := rv
          have nq : ∀ j t, sl[j]? = some t → isBox t = true → A j ≠ q := fun j t ej bj z => (nb j t ej bj).1 (by rw [z])
          have hq : F.H0 q = none := by
            cases z : F.H0 q with
            | none => rfl
            | some u => exact absurd n (h0 q (by rw [z]; exact fun w => nomatch w))
          obtain ⟨A', R'⟩ := R.setB (s := .own c) hi nq fun A1 σ1 ea es => ⟨by rw [ea]; exact es, by rw [ea]; exact rc, by rw [ea]; exact oq, by rw [ea]; exact hq⟩
          refine asgPs_ok (is := is) (vs := vs) (xs := xs) R' rr h0 (fun j t ej bj => ?_) e
          have old : ∀ j t, (sl.set i (.own c))[j]? = some t → isBox t = true → j ≠ i → NotAt (A j) vs xs := fun j t ej bj z => by
            rw [List.getElem?_set_ne (Ne.symm z)] at ej
            exact (nb j t ej bj).2
          by_cases z : j = i
          · subst z
            have := (R'.slot j _ (List.getElem?_set_self hi)).1
            have hσ : j < σ.length := by rw [← R.len]; exact hi
            rw [List.getElem?_set_self hσ] at this
            have e2 : q = A' j := V.ref.inj (Option.some.inj (Option.some.inj this))
            rw [← e2]
            exact rn c q rfl rfl
          · have e3 : A' j = A j := by
              have hj := (R'.slot j t ej)
              have ej' : sl[j]? = some t := by rw [List.getElem?_set_ne (Ne.symm z)] at ej; exact ej
              have h1 := R.slot j t ej'
              have es : (σ.set i (some (V.ref q)))[j]? = σ[j]? := List.getElem?_set_ne (Ne.symm z)
              cases t with
              | own c2 =>
                have a1 := hj.1
                have a2 := h1.1
                rw [es, a2] at a1
                exact (V.ref.inj (Option.some.inj (Option.some.inj a1))).symm
              | iso c2 =>
                have a1 := hj.1
                have a2 := h1.1
                rw [es, a2] at a1
                exact (V.ref.inj (Option.some.inj (Option.some.inj a1))).symm
              | _ => cases bj
            rw [e3]
            exact old j t ej bj z
        | bo _ => cases e1
        | ow _ _ => cases e1
      · cases e1
    · cases e
  | [], _ :: _, [], _, _, _, _, _, r, _, _, _ => r.elim
  | [], _, _ :: _, _, _, _, _, _, _, _, _, e => by simp only [asgPs] at e; cases e
  | _ :: _, _, [], _, _, _, _, _, _, _, _, e => by simp only [asgPs] at e; cases e
  | _ :: _, [], _ :: _, _, _, _, _, _, r, _, _, _ => r.elim
end
/-- a, b, .. = x, y, .. -/
def parS (is : List Nat) (fs : List Ev) (sl : Sl) (p : Pot) : Option Out := match argsE fs sl p with
  | some (xs, p1) => (match asgPs is xs sl with
    | some sl' => some (.nx sl' p1)
    | none => none)
  | none => none
theorem par_ok {K : Fg} {fs : List Ev} {is : List Nat} {D : Ends} {σ : L2.St} {H : Hp} (h : tS K (parS is fs) D σ H) : tP K fs σ H fun vs H1 => vs.length = is.length ∧ D.nx (setAll σ is vs) H1 ∧ ∀ q o, H1 q = none → D.nx (setAll σ is vs) (upd H1 q o) := by
  obtain ⟨F, O, A, sl, p, out, R, hf, q⟩ := h
  unfold parS at hf
  split at hf
  · rename_i xs p1 e1
    split at hf
    · rename_i sl' e2
      cases hf
      refine ⟨F, O, A, sl, p, xs, p1, R, e1, fun vs H1 O1 R1 T1 s1 x1 r1 => ?_⟩
      have h0 : ∀ b, F.H0 b ≠ none → H b ≠ none := fun b hb => by
        by_cases z : b = F.ap
        · rw [z]; exact R.potNe
        · cases w : F.H0 b with
          | none => exact absurd w hb
          | some u => rw [R.ext b u z w]; exact fun y => nomatch y
      obtain ⟨A', R'⟩ := asgPs_ok (H := H) R1 r1 h0 (fun j t ej bj => VPs.notAt (by
        obtain ⟨_, _, y, hy⟩ := R.box ej bj
        rw [hy]; exact fun z => nomatch z) r1) e2
      have ll : ∀ {is : List Nat} {vs : List V} {xs : List Val} {sl sl' : Sl}, asgPs is xs sl = some sl' → VPs K F O1 H H1 vs xs → vs.length = is.length := fun {is} => by
        induction is with
        | nil => intro vs xs sl sl' e r; cases xs with
          | nil => cases vs with
            | nil => rfl
            | cons _ _ => exact r.elim
          | cons _ _ => simp only [asgPs] at e; cases e
        | cons i is ih => intro vs xs sl sl' e r; cases xs with
          | nil => simp only [asgPs] at e; cases e
          | cons x xs => cases vs with
            | nil => exact r.elim
            | cons v vs =>
              simp only [asgPs] at e
              split at e
              · simp [ih e r.2.2]
              · cases e
      refine ⟨ll e2 r1, q O1 A' _ H1 R' T1, fun q0 o hq => ?_⟩
      have x2 := Ex.new R' (o := o) hq
      exact q O1 A' _ _ (R'.exp x2) (T1.trans (R'.tr x2))
    · cases hf
  · cases hf
section
variable {X : Cx} {a b c : Expr} {fa fb fc : Ev} {fs : List Ev} {x y z : Str} {px py pz pt pos : Pos} {kt : Nat} {k2 : Nat} {pt2 : Pos} {es ts : List Expr}
theorem tP_mono {K : Fg} {fs : List Ev} {σ : L2.St} {H : Hp} {Q Q' : List V → Hp → Prop} (h : tP K fs σ H Q) (m : ∀ vs H, Q vs H → Q' vs H) : tP K fs σ H Q' := by
  obtain ⟨F, O, A, sl, p, xs, p1, R, e1, q⟩ := h
  exact ⟨F, O, A, sl, p, xs, p1, R, e1, fun vs H1 O1 R1 T1 s1 x1 r1 => m _ _ (q vs H1 O1 R1 T1 s1 x1 r1)⟩
theorem cs_par2 (i j : Nat) (hc : X.calm = true) (hN : X.N.Nodup) (ha : CP X [a, b] [fa, fb])
    (hw : swappedStores [.Tuple [.Name x px, .Name y py] kt pt] (.Tuple [a, b] k2 pt2) X.env = pure (some [x, y])) (hi : X.N[i]? = some x := by rfl) (hj : X.N[j]? = some y := by rfl) (hij : i ≠ j := by decide)
    (hx : X.env.scope.names.lookup x = some .local := by rfl) (hy : X.env.scope.names.lookup y = some .local := by rfl)
    (hs : swapsWithSole [.Tuple [.Name x px, .Name y py] kt pt] (.Tuple [a, b] k2 pt2) pos.line X.env = pure false := by rfl) :
    CS X (.Assign [.Tuple [.Name x px, .Name y py] kt pt] (.Tuple [a, b] k2 pt2) pos) (parS [i, j] [fa, fb]) :=
  PSimp (ps_par hc hN hi hj hij hx hy ha hw hs) fun D σ H h => tP_mono (par_ok h) fun vs H1 ⟨hl, q, _⟩ => by
    match vs, hl, q with
    | [v, w], _, q => exact ⟨v, w, rfl, q⟩
theorem cs_par3 (i j l : Nat) (hc : X.calm = true) (hN : X.N.Nodup) (ha : CP X [a, b, c] [fa, fb, fc])
    (hw : swappedStores [.Tuple [.Name x px, .Name y py, .Name z pz] kt pt] (.Tuple [a, b, c] k2 pt2) X.env = pure (some [x, y, z])) (hi : X.N[i]? = some x := by rfl) (hj : X.N[j]? = some y := by rfl) (hl : X.N[l]? = some z := by rfl) (hij : i ≠ j := by decide) (hil : i ≠ l := by decide) (hjl : j ≠ l := by decide)
    (hx : X.env.scope.names.lookup x = some .local := by rfl) (hy : X.env.scope.names.lookup y = some .local := by rfl) (hz : X.env.scope.names.lookup z = some .local := by rfl)
    (hs : swapsWithSole [.Tuple [.Name x px, .Name y py, .Name z pz] kt pt] (.Tuple [a, b, c] k2 pt2) pos.line X.env = pure false := by rfl) :
    CS X (.Assign [.Tuple [.Name x px, .Name y py, .Name z pz] kt pt] (.Tuple [a, b, c] k2 pt2) pos) (parS [i, j, l] [fa, fb, fc]) :=
  PSimp (ps_par3 hc hN hi hj hl hij hil hjl hx hy hz ha hw hs) fun D σ H h => tP_mono (par_ok h) fun vs H1 ⟨hl, q, _⟩ => by
    match vs, hl, q with
    | [u, v, w], _, q => exact ⟨u, v, w, rfl, q⟩
/-- by a tuple that is made and taken apart -/
def gNames : List Nat → TGs
  | [] => gNil
  | i :: is => gCons (gName i) (gNames is)
theorem gNames_ok : ∀ {is : List Nat} {vs : List V} {σ : L2.St} {H : Hp} {Q : L2.St → Hp → Prop}, vs.length = is.length → Q (setAll σ is vs) H → gNames is vs σ H Q
  | [], [], _, _, _, _, q => ⟨rfl, q⟩
  | i :: is, v :: vs, _, _, _, hl, q => ⟨v, vs, rfl, gNames_ok (is := is) (by simpa using hl) q⟩
  | [], _ :: _, _, _, _, hl, _ => by simp at hl
  | _ :: _, [], _, _, _, hl, _ => by simp at hl
theorem cs_parT (is : List Nat) (hc : X.calm = true) (hg : PGs X ts (gNames is)) (ha : CP X es fs) (hz : is.length ≤ sizeLine := by decide)
    (hl : (assignEach ts X.env).length = is.length := by rfl) (hst : (assignEach ts X.env).findIdx? (·.1) = none := by rfl)
    (hs : swapsWithSole [.Tuple ts kt pt] (.Tuple es k2 pt2) pos.line X.env = pure false := by rfl) (hw : swappedStores [.Tuple ts kt pt] (.Tuple es k2 pt2) X.env = pure none := by rfl)
    (h1 : (assignEach [.Tuple ts kt pt] X.env).map (·.2) = [assign (.Tuple ts kt pt) X.env] := by rfl) : CS X (.Assign [.Tuple ts kt pt] (.Tuple es k2 pt2) pos) (parS is fs) :=
  PSimp (ps_asg (pe_tup ha) (pg_tup (n := is.length) hc hg hl hst) hs hw h1) fun D σ H h => tP_mono (par_ok h) fun vs H1 ⟨hl, _, q⟩ => by
    refine ⟨by rw [hl]; exact hz, fun a ha => ⟨a, vs, rfl, SqT.of upd_same, hl, gNames_ok hl (q a _ ha)⟩⟩
end
end Pu
namespace Pu
open PySem PySem.Spec PyProof.Rows L2

/-! ### repr -/
section
variable {X : Cx} {pins : List (Addr × Obj)} {σ : L2.St} {H : Hp} {s : Shared} {O : Pred}
mutual
theorem RD.reads (I : Inv X pins σ H s) : ∀ {d : PyData} {v : V} {u : Value}, RD X.K O H d v → RelV v u → d.hasDict = false → ∃ as, Reads s.heap u d as
  | .none, _, _, r, q, _ => by rw [rdN r] at q; cases q; exact ⟨_, .none⟩
  | .bool b, _, _, r, q, _ => by rw [rdB r] at q; cases q; exact ⟨_, .bool b⟩
  | .int i, _, _, r, q, _ => by rw [rdI r] at q; obtain ⟨t, rfl⟩ := q; exact ⟨_, .int i t⟩
  | .str i, _, _, r, q, _ => by rw [rdS r] at q; obtain ⟨t, rfl⟩ := q; exact ⟨_, .str i t⟩
  | .list ds, _, _, r, q, n => by
    obtain ⟨a, vs, rfl, h1, h2⟩ := rdL r
    cases q
    obtain ⟨its, rv, ⟨o, k, e, c, _, d⟩, _⟩ := I.list h1
    obtain ⟨as, w⟩ := RDs.reads I h2 rv (by simpa only [PyData.hasDict] using n)
    exact ⟨_, .list e c d (by simpa using w)⟩
  | .tuple ds, _, _, r, q, n => by
    simp only [RD] at r
    obtain ⟨a, vs, rfl, h1, h2⟩ := r
    cases q
    have st : SqT X.K H a vs := h1.elim (fun z => SqT.of z.2) .inr
    obtain ⟨its, rv, ⟨o, e, c, k, d⟩, _⟩ := I.tuple st
    obtain ⟨as, w⟩ := RDs.reads I h2 rv (by simpa only [PyData.hasDict] using n)
    exact ⟨_, .tuple e c d (by simpa using w)⟩
  | .dict _, _, _, _, _, n => by simp only [PyData.hasDict] at n; cases n
theorem RDs.reads (I : Inv X pins σ H s) : ∀ {ds : List PyData} {vs : List V} {us : List Value}, RDs X.K O H ds vs → Vals vs us → PyData.hasDictAll ds = false → ∃ as, ReadsAll s.heap us ds as
  | [], _, _, r, q, _ => by simp only [RDs] at r; subst r; cases q; exact ⟨_, .nil⟩
  | d :: ds, _, _, r, q, n => by
    simp only [RDs] at r
    obtain ⟨v, t, rfl, h, h2⟩ := r
    simp only [PyData.hasDictAll, Bool.or_eq_false_iff] at n
    cases q with
    | cons q1 q2 =>
      obtain ⟨as, w1⟩ := RD.reads I h q1 n.1
      obtain ⟨bs, w2⟩ := RDs.reads I h2 q2 n.2
      exact ⟨_, .cons w1 w2⟩
end
end
/-- what repr is of here -/
def reprOk (d : PyData) : Prop := d.hasDict = false ∧ d.showable = true ∧ d.depth ≤ 60 ∧ d.shown.length ≤ sizeLine
instance (d : PyData) : Decidable (reprOk d) := by unfold reprOk; infer_instance
def rRepr (K : Fg) : List V → Hp → VK → Prop := fun xs H Q => ∃ (O : Pred) (d : PyData) (v : V), xs = [v] ∧ RD K O H d v ∧ reprOk d ∧ Q (.str d.shown) H
theorem call_repr {X : Cx} {k : Nat} (hgd : X.A.guards = some []) (hr : Room k X.A) : CallR X (.builtin "repr") (rRepr X.K) := by
  intro pins s σ H xs us Q I rs h
  obtain ⟨O, d, v, rfl, rd, ⟨h1, h2, h3, h4⟩, q⟩ := h
  obtain ⟨u, rfl, r⟩ := vals1 rs
  have hu := hr.un
  cases d with
  | none => rw [rdN rd] at r; cases r; exact P.repr_of_none ⟨.str _, H, I.tok _, ⟨_, rfl⟩, q⟩
  | bool b => rw [rdB rd] at r; cases r; exact P.repr_of_bool ⟨.str _, H, I.tok _, ⟨_, rfl⟩, by cases b <;> exact q⟩
  | int i =>
    rw [rdI rd] at r; obtain ⟨t, rfl⟩ := r
    exact P.repr_of_int (by simpa [PyData.showable] using h2) ⟨.str _, H, I.tok _, ⟨_, rfl⟩, q⟩
  | str x =>
    rw [rdS rd] at r; obtain ⟨t, rfl⟩ := r
    exact P.repr_of_str ⟨.str _, H, I.tok _, ⟨_, rfl⟩, q⟩ h4
  | list ds =>
    obtain ⟨as, w⟩ := rd.reads I r h1
    obtain ⟨a, vs, rfl, _⟩ := rdL rd
    cases r
    exact repr_of_reads' w h2 (fun z => by rw [h1] at z; cases z) hgd (by omega) (fun _ _ e => e) (fun h' t tk kk => ⟨.str _, H, I.kept kk, ⟨_, rfl⟩, q⟩) h4
  | tuple ds =>
    obtain ⟨as, w⟩ := rd.reads I r h1
    simp only [RD] at rd
    obtain ⟨a, vs, rfl, _⟩ := rd
    cases r
    exact repr_of_reads' w h2 (fun z => by rw [h1] at z; cases z) hgd (by omega) (fun _ _ e => e) (fun h' t tk kk => ⟨.str _, H, I.kept kk, ⟨_, rfl⟩, q⟩) h4
  | dict kvs => cases h1
def reprK : List PyData → Option PyData
  | [d] => if reprOk d then some (.str d.shown) else none
  | _ => none
theorem cs_repr {K : Fg} : CallS K (rRepr K) (cF reprK) := cs_flat fun O1 H vs ds z Q r hz q => by
  unfold reprK at hz
  split at hz
  · rename_i d
    split at hz
    · rename_i ok
      cases hz
      obtain ⟨v, rfl, h⟩ := rds1 r
      exact ⟨O1, d, v, rfl, h, ok, q _ toS⟩
    · cases hz
  · cases hz

/-! ### methods of texts -/
def MethS (K : Fg) (r : V → List V → Hp → VK → Prop) (g : Str → List Val → Option Val) : Prop :=
  ∀ (F : Fc) (O : Pred) (A : Nat → Addr) (sl : Sl) (p0 p : Pot) (σ : L2.St) (H0 H : Hp) (a : Str) (vs : List V) (xs : List Val) (z : Val) (Q : VK), Rl K F O A sl p0 σ H0 → Ex F H0 H p → Rl K F O A sl p σ H → VRs K F O A sl H0 H vs xs → g a xs = some z →
    (∀ v H', Ex F H H' p → VR K F O A sl H H' v z → Q v H') → r (.str a) vs H Q
def methE (g : Str → List Val → Option Val) (fo : Ev) (fs : List Ev) (sl : Sl) (p : Pot) : Option (Val × Pot) := match fo sl p with
  | some (x, p1) => (match x.dat with
    | some (.str a, _) => (match argsE fs sl p1 with
      | some (xs, p2) => (match g a xs with
        | some z => some (z, p2)
        | none => none)
      | none => none)
    | _ => none)
  | none => none
section
variable {X : Cx} {o e : Expr} {es : List Expr} {fo : Ev} {fs : List Ev} {name : Str} {id : String} {apos cpos : Pos} {r : V → List V → Hp → VK → Prop} {g : Str → List Val → Option Val}
theorem ce_smeth (slot : PySem.Slot "str" name id) (ty : typeOf (.builtin id) = pure (.type "method_descriptor")) (hm : MtR X id r) (hs : MethS X.K r g) (ho : CE X o fo) (ha : CA X (e :: es) fs)
    (h2 : attributeBase o name X.env (eval o X.env) = eval o X.env := by rfl)
    (h3 : (((backTo cpos (starEach (e :: es) X.env)).all fun x => !x.fst) && (backToKw cpos (keywordEach [] X.env)).all (fun x => x.fst.isSome) && decide ((e :: es).length + ([] : List Keyword).length + (if ([] : List Keyword).isEmpty = true then 0 else 1) < 30)) = true := by rfl)
    (h4 : (apos.endLine == cpos.line) = true := by rfl) (h1 : starEach (e :: es) X.env = (false, eval e X.env) :: starEach es X.env := by rfl) (h5 : ((backTo cpos (starEach es X.env)).any fun x => x.fst) = false := by rfl) :
    CE X (.Call (.Attribute o name apos) (e :: es) [] cpos) (methE g fo fs) := PEimp (pe_bm PySem.F.plainAttrs_str slot ty hm ho ha h2 h3 h4 h1 h5) fun σ H Q h => by
  obtain ⟨F, O, A, sl, p, val, p', R, hf, q⟩ := h
  unfold methE at hf
  split at hf
  · rename_i x p1 e1
    split at hf
    · rename_i a c e2
      split at hf
      · rename_i xs p2 e3
        split at hf
        · rename_i z e4
          cases hf
          refine tE.get R e1 fun v H1 x1 r1 => ?_
          have R1 := R.exp x1
          have ev := rdS (r1.dat R R1 e2)
          subst ev
          refine ⟨rfl, F, O, A, sl, p1, xs, p', R1, e3, fun vs H2 x2 r2 => ?_⟩
          have x12 := x1.trans x2
          exact hs F O A sl p p' σ H H2 a vs xs val Q R x12 (R.exp x12) (r2.back x1) e4 fun w H3 x3 r3 => q w H3 (x12.trans x3) (r3.back x12)
        · cases hf
      · cases hf
    · cases hf
  · cases hf
end
/-- sep.join(texts) -/
def joinM (a : Str) : List Val → Option Val
  | [x] => (match x.items with
    | some (ds, _) => (match strsOf ds with
      | some ys => if (ys.map (·.length)).sum + ys.length * a.length ≤ 16777216 then some (.sh (.str (Txt.join a ys))) else none
      | none => none)
    | none => none)
  | _ => none
def splitM (a : Str) : List Val → Option Val
  | [.sh (.str b)] => if (b.length == 0) = false ∧ a.length + 2 ≤ sizeLine then some (.fr (.list ((Txt.split a b).map .str))) else none
  | _ => none
def find3M (a : Str) : List Val → Option Val
  | [.sh (.str b), .sh (.int i)] => some (.sh (.int (Txt.find3 a b i)))
  | _ => none
def stripM (a : Str) : List Val → Option Val
  | [.sh (.str b)] => if a.length ≤ sizeLine then some (.sh (.str (Txt.stripChars a b))) else none
  | _ => none
section
variable {K : Fg}
theorem shS {F : Fc} {O : Pred} {A : Nat → Addr} {sl : Sl} {H H' : Hp} {v : V} {i : Str} (h : VR K F O A sl H H' v (.sh (.str i))) : v = .str i := rdS (K := K) (O := O) (H := H') h
theorem ms_join : MethS K (fun x xs H Q => ∃ a p, ∃ ys : List Str, x = .str a ∧ xs = [.ref p] ∧ (SqL K H p (ys.map V.str) ∨ SqT K H p (ys.map V.str)) ∧ (ys.map (·.length)).sum + ys.length * a.length ≤ 16777216 ∧ Q (.str (Txt.join a ys)) H) joinM := by
  intro F O A sl p0 p σ H0 H a vs xs z Q R0 X0 R rs hg q
  unfold joinM at hg
  split at hg
  · rename_i x
    split at hg
    · rename_i ds c i1
      split at hg
      · rename_i ys e1
        split at hg
        · rename_i hz
          cases hg
          obtain ⟨v, rfl, r⟩ := rs.one
          obtain ⟨l, us, rfl, t, rd⟩ := r.items R0 R i1
          have ed := of_strsOf e1
          subst ed
          have eu := RDs.of_strs rd
          subst eu
          refine ⟨a, l, ys, rfl, rfl, ?_, hz, q _ H (Ex.refl R) (show RD K O H _ (.str _) from toS O H)⟩
          rcases t with ⟨_, _, h⟩ | ⟨_, _, h⟩
          · exact .inl (SqL.of h)
          · exact .inr h
        · cases hg
      · cases hg
    · cases hg
  · cases hg
theorem ms_split : MethS K (fun x xs H Q => ∃ a b, x = .str a ∧ xs = [.str b] ∧ (b.length == 0) = false ∧ a.length + 2 ≤ sizeLine ∧ rNewStrs (Txt.split a b) H Q) splitM := by
  intro F O A sl p0 p σ H0 H a vs xs z Q R0 X0 R rs hg q
  unfold splitM at hg
  split at hg
  · rename_i b
    split at hg
    · rename_i hc
      cases hg
      obtain ⟨v, rfl, r⟩ := rs.one
      refine ⟨a, b, rfl, by rw [shS r], hc.1, hc.2, fun l hl => q _ _ (Ex.new R hl) ?_⟩
      exact VR.newL (c := true) R hl (RDs.strs _)
    · cases hg
  · cases hg
theorem ms_find3 : MethS K (fun x xs H Q => ∃ (a b : Str) (i : Int), x = .str a ∧ xs = [.str b, .int i] ∧ Q (.int (Txt.find3 a b i)) H) find3M := by
  intro F O A sl p0 p σ H0 H a vs xs z Q R0 X0 R rs hg q
  unfold find3M at hg
  split at hg
  · rename_i b i
    cases hg
    obtain ⟨v, u, rfl, r, r'⟩ := rs.two
    exact ⟨a, b, i, rfl, by rw [shS r, shI r'], q _ H (Ex.refl R) (show RD K O H _ (.int _) from toI O H)⟩
  · cases hg
theorem ms_strip : MethS K (fun x xs H Q => ∃ a b, x = .str a ∧ xs = [.str b] ∧ a.length ≤ sizeLine ∧ Q (.str (Txt.stripChars a b)) H) stripM := by
  intro F O A sl p0 p σ H0 H a vs xs z Q R0 X0 R rs hg q
  unfold stripM at hg
  split at hg
  · rename_i b
    split at hg
    · rename_i hc
      cases hg
      obtain ⟨v, rfl, r⟩ := rs.one
      exact ⟨a, b, rfl, by rw [shS r], hc, q _ H (Ex.refl R) (show RD K O H _ (.str _) from toS O H)⟩
    · cases hg
  · cases hg
end
section
variable {X : Cx} {o e : Expr} {es : List Expr} {fo f : Ev} {fs : List Ev}

/-! ### calls by keywords -/
abbrev CK (X : Cx) (kws : List Keyword) (fs : List Ev) : Prop := PK X kws (tA X.K fs)
theorem PKimp {kws : List Keyword} {t t' : TA} (h : PK X kws t) (i : ∀ σ H Q, t' σ H Q → t σ H Q) : PK X kws t' := ⟨fun pos pins s σ H Q I w => h.run pos pins s σ H Q I (i σ H Q w)⟩
theorem ck_nil : CK X [] [] := PKimp pk_nil fun σ H Q h => by
  obtain ⟨F, O, A, sl, p, vals, p', R, hf, q⟩ := h
  cases hf
  exact q [] H (Ex.refl R) True.intro
theorem ck_cons {nm : Option Str} {kpos : Pos} {kws : List Keyword} (ha : CE X e f) (hr : CK X kws fs) : CK X (⟨nm, e, kpos⟩ :: kws) (f :: fs) := PKimp (pk_cons ha hr) fun σ H Q h => by
  obtain ⟨F, O, A, sl, p, vals, p', R, hf, q⟩ := h
  unfold argsE at hf
  split at hf
  · rename_i x p1 e1
    split at hf
    · rename_i xs p2 e2
      cases hf
      refine tE.get R e1 fun v H1 x1 r1 => ?_
      exact ⟨F, O, A, sl, p1, xs, p', R.exp x1, e2, fun vs H2 x2 r2 => q (v :: vs) H2 (x1.trans x2) ⟨r1.exp R x2, r2.back x1⟩⟩
    · cases hf
  · cases hf
/-- the items at these places -/
def perm {α : Type} (is : List Nat) (xs : List α) : List α := is.filterMap (xs[·]?)
theorem VRs.get {K : Fg} {F : Fc} {O : Pred} {A : Nat → Addr} {sl : Sl} {H H' : Hp} : ∀ {vs : List V} {xs : List Val} {i : Nat}, VRs K F O A sl H H' vs xs → (∃ v x, vs[i]? = some v ∧ xs[i]? = some x ∧ VR K F O A sl H H' v x) ∨ (vs[i]? = none ∧ xs[i]? = none)
  | [], [], _, _ => .inr ⟨by simp, by simp⟩
  | v :: vs, x :: xs, 0, h => .inl ⟨v, x, rfl, rfl, h.1⟩
  | v :: vs, x :: xs, i + 1, h => by simpa using VRs.get (i := i) h.2
  | [], _ :: _, _, h => h.elim
  | _ :: _, [], _, h => h.elim
theorem VRs.perm {K : Fg} {F : Fc} {O : Pred} {A : Nat → Addr} {sl : Sl} {H H' : Hp} {vs : List V} {xs : List Val} (h : VRs K F O A sl H H' vs xs) : ∀ is : List Nat, VRs K F O A sl H H' (Pu.perm is vs) (Pu.perm is xs)
  | [] => True.intro
  | i :: is => by
    have ih := VRs.perm h is
    rcases h.get (i := i) with ⟨v, x, e1, e2, r⟩ | ⟨e1, e2⟩
    · simp only [Pu.perm, List.filterMap_cons, e1, e2]
      exact ⟨r, ih⟩
    · simp only [Pu.perm, List.filterMap_cons, e1, e2]
      exact ih
theorem Vals.perm {vs : List V} {us : List Value} (h : Vals vs us) : ∀ is : List Nat, Vals (Pu.perm is vs) (Pu.perm is us)
  | [] => .nil
  | i :: is => by
    have ih := Vals.perm h is
    cases e : vs[i]? with
    | none =>
      have e2 := Vals.none_of h e
      simp only [Pu.perm, List.filterMap_cons, e, e2]
      exact ih
    | some v =>
      obtain ⟨u, e2, r⟩ := Vals.get h e
      simp only [Pu.perm, List.filterMap_cons, e, e2]
      exact .cons r ih
def callKF (G : Fn) (is : List Nat) (fs : List Ev) (sl : Sl) (p : Pot) : Option (Val × Pot) := match argsE fs sl p with
  | some (xs, p1) => (match argsOf (perm is xs) with
    | some (as, c) => (match G as p1 with
      | some (val, p2) => some (resV c as val, p2)
      | none => none)
    | none => none)
  | none => none
/-- how keywords bind: is, the places of the keywords in the parameters' order -/
def KwBinds (K : Fg) (fd : FuncData) (ps ks : List Str) (is : List Nat) : Prop :=
  ∀ (s : Shared) (ws : List Value), K.In s.heap → ws.length = ks.length → BindsTo s fd ⟨[], ks.zip ws⟩ (ps.zip (perm is ws))
theorem ce_callKw {k : Nat} {f : Addr} {fd : FuncData} {ps : List Str} {G : Fn} {x : Str} {pos pn : Pos} {kws : List Keyword} (ks : List Str) (is : List Nat) (F : FnG X.prog X.w X.K X.mg X.base k f fd ps G) (hgd : X.A.guards = some []) (hr : Room k X.A) (hm : X.mg x = some (.ref f)) (hk : PySem.W.keepIn X.K (.ref f) = true) (hb : KwBinds X.K fd ps ks is)
    (ha : CK X kws fs) (hlen : ks.length = fs.length := by rfl) (hperm : ∀ xs : List Val, xs.length = fs.length → (perm is xs).length = ps.length) (hg : Gl X x := by rfl) (hdb : (x == ("__debug__" : Str)) = false := by decide)
    (hall : (backToKw pos (keywordEach kws X.env)).all (·.1.isSome) = true := by rfl) (hks : (backToKw pos (keywordEach kws X.env)).filterMap (·.1) = ks := by rfl)
    (hpl : ((backTo pos (starEach [] X.env)).any (·.1) || (backToKw pos (keywordEach kws X.env)).any (·.1.isNone)) = false := by rfl) : CE X (.Call (.Name x pn) [] kws pos) (callKF G is fs) := by
  refine ⟨fun pins s σ H Q I h => ?_⟩
  obtain ⟨Fc, O, A, sl, p, val, p', R, hf, q⟩ := h
  unfold callKF at hf
  split at hf
  · rename_i xs p1 e1
    split at hf
    · rename_i as c e2
      split at hf
      · rename_i v0 p2 e3
        cases hf
        refine wpAny_Call_Name_kw (ld_glob I hg hm ?_ hdb)
        have lx := argsE_len e1
        have pa := ha.run pos pins s σ H (fun vs H1 => vs.length = ks.length ∧ spF X.K ps.length G (perm is vs) H1 Q) I ⟨Fc, O, A, sl, p, xs, p1, R, e1, fun vs H1 x1 r1 => ⟨?_, ?_⟩⟩
        · refine PySem.W.callWith_KW0 (first := []) (h₀ := X.base) I.ok.mod.kin hk hall (thn pa fun ws s1 ⟨vs, H1, I1, r, hl, w⟩ => ⟨I1.kIn, ?_⟩) hpl
          rw [hks]
          have bt := hb s1 ws I1.kIn (by rw [← r.length]; exact hl)
          refine wpAny_call (codeAny_mono (F.run X.A X.stack s1 H1 ⟨[], ks.zip ws⟩ (perm is ws) (perm is vs) Q hgd hr I1.env0 bt (Vals.perm r is) w) fun res s' hq => ?_)
          cases res with
          | error _ => exact hq.elim
          | ok fl => cases fl with
            | ret u => exact I1.after hq
            | _ => exact hq.elim
        · have : ∀ {vs : List V} {xs : List Val}, VRs X.K Fc O A sl H H1 vs xs → vs.length = xs.length := fun {vs} => by
            induction vs with
            | nil => intro xs h; cases xs with
              | nil => rfl
              | cons _ _ => exact h.elim
            | cons v vs ih => intro xs h; cases xs with
              | nil => exact h.elim
              | cons x xs => simp [ih h.2]
          rw [this r1, lx, hlen]
        · refine call_ok R x1 (r1.perm is) e2 e3 ?_ q
          rw [argsOf_len e2, hperm xs lx]
      · cases hf
    · cases hf
  · cases hf
end
end Pu
namespace Pu
open PySem PySem.Spec PyProof.Rows L2

/-! ### the pot's two numbers -/
/-- pot[0], pot[1] -/
def potE (i : Nat) (k : Bool) (sl : Sl) (p : Pot) : Option (Val × Pot) := match sl[i]? with
  | some .pot => some (.sh (.int (if k = true then p.2 else p.1)), p)
  | _ => none
section
variable {X : Cx} {x : Str} {np cp pos : Pos} {j : Nat} {e : Expr} {f : Ev}
theorem ce_pot0 (i : Nat) (hN : X.N[i]? = some x := by rfl) (hv : Vis X.env.scope x := by first | exact Or.inl rfl | exact Or.inr (Or.inl rfl) | exact Or.inr (Or.inr rfl)) (hd : (x == ("__debug__" : Str)) = false := by decide) (hcd : (x == ("__classdict__" : Str)) = false := by decide)
    (hs : PlainIx (.Constant (.int 0) j cp) := by exact fun _ _ => rfl) : CE X (.Subscript (.Name x np) (.Constant (.int 0) j cp) pos) (potE i false) := PEimp (pe_ix ix_list (pe_var hN hv hd hcd) pe_int hs) fun σ H Q h => by
  obtain ⟨F, O, A, sl, p, val, p', R, hf, q⟩ := h
  unfold potE at hf
  split at hf
  · rename_i ei
    cases hf
    exact ⟨_, R.slot i _ ei, F.ap, _, 0, .int p.1, rfl, rfl, SqL.of R.pot, atI_nat (j := 0) rfl, q _ H (Ex.refl R) (show RD X.K O H (.int _) _ from toI O H)⟩
  · cases hf
theorem ce_pot1 (i : Nat) (hN : X.N[i]? = some x := by rfl) (hv : Vis X.env.scope x := by first | exact Or.inl rfl | exact Or.inr (Or.inl rfl) | exact Or.inr (Or.inr rfl)) (hd : (x == ("__debug__" : Str)) = false := by decide) (hcd : (x == ("__classdict__" : Str)) = false := by decide)
    (hs : PlainIx (.Constant (.int 1) j cp) := by exact fun _ _ => rfl) : CE X (.Subscript (.Name x np) (.Constant (.int 1) j cp) pos) (potE i true) := PEimp (pe_ix ix_list (pe_var hN hv hd hcd) pe_int hs) fun σ H Q h => by
  obtain ⟨F, O, A, sl, p, val, p', R, hf, q⟩ := h
  unfold potE at hf
  split at hf
  · rename_i ei
    cases hf
    exact ⟨_, R.slot i _ ei, F.ap, _, 1, .int p.2, rfl, rfl, SqL.of R.pot, atI_nat (j := 1) rfl, q _ H (Ex.refl R) (show RD X.K O H (.int _) _ from toI O H)⟩
  · cases hf
section
variable {K : Fg} {F : Fc} {O : Pred} {A : Nat → Addr} {sl : Sl} {p p' : Pot} {σ : L2.St} {H : Hp}
theorem Ex.pots (R : Rl K F O A sl p σ H) (p' : Pot) : Ex F H (upd H F.ap (.lst [.int p'.1, .int p'.2])) p' := ⟨fun b x n e => by rw [upd_ne n]; exact e, upd_same⟩
end
/-- pot[1] = e -/
def potS (i : Nat) (f : Ev) (sl : Sl) (p : Pot) : Option Out := match f sl p, sl[i]? with
  | some (.sh (.int n), p1), some .pot => some (.nx sl (p1.1, n))
  | _, _ => none
theorem cs_pot1 (i : Nat) {tp : Pos} (he : CE X e f) (hN : X.N[i]? = some x := by rfl) (hv : Vis X.env.scope x := by first | exact Or.inl rfl | exact Or.inr (Or.inl rfl) | exact Or.inr (Or.inr rfl)) (hd : (x == ("__debug__" : Str)) = false := by decide) (hcd : (x == ("__classdict__" : Str)) = false := by decide)
    (hs : swapsWithSole [.Subscript (.Name x np) (.Constant (.int 1) j cp) tp] e pos.line X.env = pure false := by rfl) (hw : swappedStores [.Subscript (.Name x np) (.Constant (.int 1) j cp) tp] e X.env = pure none := by rfl)
    (h1 : (assignEach [.Subscript (.Name x np) (.Constant (.int 1) j cp) tp] X.env).map (·.2) = [assign (.Subscript (.Name x np) (.Constant (.int 1) j cp) tp) X.env] := by rfl) :
    CS X (.Assign [.Subscript (.Name x np) (.Constant (.int 1) j cp) tp] e pos) (potS i f) := PSimp (ps_asg he (pg_sub (pe_var hN hv hd hcd) pe_int set_list) hs hw h1) fun D σ H h => by
  obtain ⟨F, O, A, sl, p, out, R, hf, q⟩ := h
  unfold potS at hf
  split at hf
  · rename_i n p1 e1 ei
    cases hf
    refine tE.get R e1 fun v H1 x1 r1 => ?_
    have R1 := R.exp x1
    have ev := shI r1
    subst ev
    have x2 := Ex.pots R1 (p1.1, n)
    exact ⟨_, R.slot i _ ei, F.ap, _, 1, 1, rfl, rfl, R1.pot, rfl, q O A σ _ (R1.exp x2) ((R.tr x1).trans (R1.tr x2))⟩
  · cases hf
/-- pot[0], digit = divmod(pot[0], many) -/
def potDivS (i jd : Nat) (f : Ev) (sl : Sl) (p : Pot) : Option Out := match f sl p, sl[i]? with
  | some (.sh (.int m), p1), some .pot => if 0 < m ∧ m < 1073741824 ∧ jd < sl.length then some (.nx (sl.set jd (.sh (.int (p.1 % m)))) (p.1 / m, p1.2)) else none
  | _, _ => none
theorem cs_potDiv {y : Str} {yp tp tp2 mp cpos e' : Pos} {np' cp' : Pos} {j' kk : Nat} {b : Expr} (i jd : Nat) (hc : X.calm = true) (hND : X.N.Nodup) (hb : CE X b f) (hm : X.mg "divmod" = none) (hg : Gl X "divmod" := by rfl)
    (hN : X.N[i]? = some x := by rfl) (hv : Vis X.env.scope x := by first | exact Or.inl rfl | exact Or.inr (Or.inl rfl) | exact Or.inr (Or.inr rfl)) (hd : (x == ("__debug__" : Str)) = false := by decide) (hcd : (x == ("__classdict__" : Str)) = false := by decide)
    (hy : X.N[jd]? = some y := by rfl) (hyl : Loc X.env.scope y := by first | exact Or.inl rfl | exact Or.inr rfl) (hyf : X.fn y = true ∨ X.env.scope.names.lookup y = some .local := by first | exact .inl rfl | exact .inr rfl) (hpx : PlainIx (.Constant (.int 0) j' cp') := by exact fun _ _ => rfl)
    (he1 : starEach [.Subscript (.Name x np') (.Constant (.int 0) j' cp') tp2, b] X.env = (false, eval (.Subscript (.Name x np') (.Constant (.int 0) j' cp') tp2) X.env) :: starEach [b] X.env := by rfl) (he2 : starEach [b] X.env = (false, eval b X.env) :: starEach [] X.env := by rfl)
    (hpl : (backTo cpos (starEach [b] X.env)).any (·.1) = false := by rfl)
    (ha : ∀ v, assign (.Subscript (.Name x np) (.Constant (.int 0) j cp) tp) X.env v = (do
      let ov ← holding [v] (eval (.Name x np) X.env)
      let iv ← holding [v, ov] (eval (.Constant (.int 0) j cp) X.env)
      standAt tp
      holding [v, ov, iv] (setItem ov iv v)
      release [v, ov, iv] []) := by intro _; rfl)
    (hx1 : (assignEach [.Subscript (.Name x np) (.Constant (.int 0) j cp) tp, .Name y yp] X.env).map (·.2) = assign (.Subscript (.Name x np) (.Constant (.int 0) j cp) tp) X.env :: (assignEach [.Name y yp] X.env).map (·.2) := by rfl)
    (hx2 : (assignEach [.Name y yp] X.env).map (·.2) = assign (.Name y yp) X.env :: (assignEach [] X.env).map (·.2) := by rfl)
    (hl : (assignEach [.Subscript (.Name x np) (.Constant (.int 0) j cp) tp, .Name y yp] X.env).length = 2 := by rfl) (hst : (assignEach [.Subscript (.Name x np) (.Constant (.int 0) j cp) tp, .Name y yp] X.env).findIdx? (·.1) = none := by rfl)
    (hs : swapsWithSole [.Tuple [.Subscript (.Name x np) (.Constant (.int 0) j cp) tp, .Name y yp] kk mp] (.Call (.Name "divmod" e') [.Subscript (.Name x np') (.Constant (.int 0) j' cp') tp2, b] [] cpos) pos.line X.env = pure false := by rfl)
    (hw : swappedStores [.Tuple [.Subscript (.Name x np) (.Constant (.int 0) j cp) tp, .Name y yp] kk mp] (.Call (.Name "divmod" e') [.Subscript (.Name x np') (.Constant (.int 0) j' cp') tp2, b] [] cpos) X.env = pure none := by rfl)
    (h1 : (assignEach [.Tuple [.Subscript (.Name x np) (.Constant (.int 0) j cp) tp, .Name y yp] kk mp] X.env).map (·.2) = [assign (.Tuple [.Subscript (.Name x np) (.Constant (.int 0) j cp) tp, .Name y yp] kk mp) X.env] := by rfl) :
    CS X (.Assign [.Tuple [.Subscript (.Name x np) (.Constant (.int 0) j cp) tp, .Name y yp] kk mp] (.Call (.Name "divmod" e') [.Subscript (.Name x np') (.Constant (.int 0) j' cp') tp2, b] [] cpos) pos) (potDivS i jd f) :=
  PSimp (ps_asg (pe_callB call_divmod hg hm (by decide +kernel) (ca_cons (ce_pot0 i hN hv hd hcd hpx) (ca_cons hb ca_nil he2) he1) (by decide) (by decide) he1 hpl)
    (pg_tup (n := 2) hc (pgs_cons (pg_sub (pe_var hN hv hd hcd) pe_int set_list ha) (pgs_cons (pg_name hND hy hyl hyf) pgs_nil hx2) hx1) hl hst) hs hw h1) fun D σ H h => by
    obtain ⟨F, O, A, sl, p, out, R, hf, q⟩ := h
    unfold potDivS at hf
    split at hf
    · rename_i m p1 e1 ei
      split at hf
      · rename_i c
        cases hf
        have e0 : potE i false sl p = some (.sh (.int p.1), p) := by unfold potE; rw [ei]; rfl
        refine ⟨F, O, A, sl, p, _, _, R, args2 e0 e1, fun vs H1 x1 r1 => ?_⟩
        obtain ⟨v, u, rfl, r, r'⟩ := r1.two
        have R1 := R.exp x1
        refine ⟨p.1, m, by rw [shI r, shI r'], ⟨c.1, c.2.1⟩, fun t ht => ?_⟩
        have x2 := Ex.new R1 (o := .tup [.int (p.1 / m), .int (p.1 % m)]) ht
        have R2 := R1.exp x2
        have x3 := Ex.pots R2 (p.1 / m, p1.2)
        have R3 := R2.exp x3
        refine ⟨t, _, rfl, SqT.of upd_same, rfl, _, _, rfl, ⟨_, R.slot i _ ei, F.ap, _, 0, 0, rfl, rfl, R2.pot, rfl, ?_⟩⟩
        refine ⟨_, _, rfl, rfl, ?_⟩
        exact q O A _ _ (R3.setSh c.2.2 (show RD X.K O _ (.int (p.1 % m)) _ from toI O _)) (((R.tr x1).trans (R1.tr x2)).trans (R2.tr x3))
      · cases hf
    · cases hf
end
end Pu
namespace Pu
open PySem PySem.Spec PyProof.Rows L2

/-! ### defs by any promise, where no repr is under way -/
abbrev SpS := List V → Hp → VK → Prop
structure FnS (P : Program) (w : World) (K : Fg) (mg : Str → Option Value) (base : Heap) (k : Nat) (f : Addr) (fd : FuncData) (ps : List Str) (sp : SpS) : Prop where
  len : ∀ vs H Q, sp vs H Q → vs.length = ps.length
  run : ∀ (A : Around) (outer : List Env) (s : Shared) (H : Hp) (args : Args) (us : List Value) (vs : List V) (Q : VK), A.guards = some [] → Room k A → Env0 P w K mg base A outer s H → BindsTo s fd args (ps.zip us) → Vals vs us → sp vs H Q →
    codeAny (model P w) A (.call (.ref f) args) (CR CX0 outer P w H s Q E0) s
theorem FnG.toS {P : Program} {w : World} {K : Fg} {mg : Str → Option Value} {base : Heap} {k : Nat} {f : Addr} {fd : FuncData} {ps : List Str} {G : Fn} (F : FnG P w K mg base k f fd ps G) : FnS P w K mg base k f fd ps (spF K ps.length G) :=
  ⟨fun _ _ _ h => h.1, F.run⟩
section
variable {P : Program} {w : World} {K : Fg} {mg : Str → Option Value} {base : Heap}
theorem FnS.of {x qual : Str} {st : Stmt} {f : Addr} {fd : FuncData} {N ps : List Str} {k : Nat} {sp : SpS} (F : Fun K x qual st f fd) (S : FnScope N ps (defScope st)) (len : ∀ vs H Q, sp vs H Q → vs.length = ps.length)
    (hbody : ∀ (cdv : Value) (A : Around) (outer : List Env) (s : Shared) (H : Hp) (vs : List V) (Q : VK), (bodyX P w K mg base N qual st f cdv A outer s H E0).A.guards = some [] → Room k (bodyX P w K mg base N qual st f cdv A outer s H E0).A → sp vs H Q →
      ∃ t, PSs (bodyX P w K mg base N qual st f cdv A outer s H E0) (defBody st) t ∧ t { nx := fun _ H' => Q .non H', rt := Q } (start N vs) H) : FnS P w K mg base (k + 1) f fd ps sp := by
  obtain ⟨oc, od, kV, doc, pm, an, cdv, ct, osl, rfl, lk, hcd⟩ := F.ex
  refine ⟨len, fun A outer s H args us vs Q hgd hr e0 hb r hsp => ?_⟩
  have hl := len _ _ _ hsp
  have KX : K.In s.heap := e0.mod.kin.keeps fun b o e => (e0.bs b o e).1
  have lim : s.heap.NoLimit := e0.mod.nolimit.keeps fun b o e => (e0.bs b o e).1
  have kinds : ∀ y ∈ ps.zip us, (defScope st).names.lookup y.1 = some .local ∨ ((defScope st).names.lookup y.1 = some .cell ∧ ((cellsFrom (s.heap.objs.size + 1) (defScope st).names []).lookup y.1).isSome = true) := by
    rintro ⟨n, v⟩ hy
    have q := S.par n (List.of_mem_zip hy).1
    exact q.elim .inl fun z => .inr ⟨z, PySem.W.cellsFrom_some _ _ _ (.inl z)⟩
  refine codeAny_call_function hr.depth (KX _ _ lk) rfl S.co S.gen rfl (PySem.W.codeRec_of KX hcd) (hb _ _ _ _ ?_)
  refine wpAny_newFunctionEnv_cells S.kind kinds fun env he s1 x1 => ?_
  subst he
  refine ⟨lim.keeps x1.toInCall.keep, codeAny_func ?_⟩
  have hr' : Room k (A.deeper (envOfC qual (defScope st) s.heap.objs.size f cdv)) := hr.deeper _
  obtain ⟨t, body, rd⟩ := hbody cdv A outer s H vs Q hgd hr' hsp
  have I := inv_start (CX := CX0) (E := E0) S hr.hd e0 hl r x1
  have walked := body.nox.run [] s1 (start N vs) H { nx := fun _ H' => Q .non H', rt := Q } I rd
  refine wpAny_mono walked (fun fl s' hs => ?_) fun e s' hs => hs
  have fin : ∀ {σ' : L2.St} {H' : Hp} {v : V} {u : Value}, Inv (cxOf CX0 P w K mg base N qual (defScope st) f cdv A outer s H E0) [] σ' H' s' → RelV v u → Q v H' → L2.CE outer P w H s Q u s' :=
    fun {σ' H' v u} J rv q => ⟨v, H', J.os, J.bare, J.base, J.hok, rv, q⟩
  cases fl with
  | next => obtain ⟨σ', H', J, q⟩ := hs; exact fin (v := V.non) (u := Value.none) J rfl q
  | ret u => obtain ⟨v, σ', H', J, rv, q⟩ := hs; exact fin J rv q
  | brk => obtain ⟨_, _, _, q⟩ := hs; exact q.elim
  | cont => obtain ⟨_, _, _, q⟩ := hs; exact q.elim
end
section
variable {X : Cx} {k : Nat} {f : Addr} {fd : FuncData} {ps : List Str} {sp : SpS} {x : Str} {e : Expr} {es : List Expr} {ta : TA} {pos pn : Pos}
/-- f(e, ..) -/
theorem pe_callS (F : FnS X.prog X.w X.K X.mg X.base k f fd ps sp) (hgd : X.A.guards = some []) (hr : Room k X.A) (hm : X.mg x = some (.ref f)) (hk : PySem.W.keepIn X.K (.ref f) = true) (hb : Binds X.K fd ps []) (ha : PA X (e :: es) ta)
    (hg : Gl X x := by rfl) (hdb : (x == ("__debug__" : Str)) = false := by decide) (he : starEach (e :: es) X.env = (false, eval e X.env) :: starEach es X.env := by rfl) (hpl : (backTo pos (starEach es X.env)).any (·.1) = false := by rfl) :
    PE X (.Call (.Name x pn) (e :: es) [] pos) (fun σ H Q => ta σ H fun vs H1 => sp vs H1 Q) := by
  refine ⟨fun pins s σ H Q I h => wpAny_Call_Name_kw (ld_glob I hg hm ?_ hdb)⟩
  refine PySem.W.callWith_K (h₀ := X.base) I.ok.mod.kin hk (thn (ha.run pos pins s σ H _ I h) fun us s1 ⟨vs, H1, I1, r, w⟩ => ⟨I1.kIn, ?_⟩) he hpl
  have hl : us.length = ps.length := r.length.symm.trans (F.len _ _ _ w)
  have bt := hb s1 us I1.kIn (by rw [List.append_nil]; exact hl)
  rw [List.append_nil] at bt
  refine wpAny_call (codeAny_mono (F.run X.A X.stack s1 H1 ⟨us, []⟩ us vs Q hgd hr I1.env0 bt r w) fun res s' hq => ?_)
  cases res with
  | error _ => exact hq.elim
  | ok fl => cases fl with
    | ret u => exact I1.after hq
    | _ => exact hq.elim
end

theorem u65 {k : Nat} {A : Around} (hr : Room k A) : A.units + 65 < cLine := by have := hr.un; omega
/-! ### the law's own row -/
/-- the law's def, called at the heap behind the top -/
theorem law_run {P : Program} {w : World} {K : Fg} {mg mb : Str → Option Value} {k : Nat} {fa a : Addr} {fd : FuncData} {x : Str} {sp : SpS} {s1 : Shared} {vs : List Value} {ns : List Int}
    (KX : K.In s1.heap) (hns : s1.heap.Ns mainGlobals mg) (hb : s1.heap.Ns builtinsNs mb) (hbb : ∀ x : Str, x ≠ "__name__" → mb x = bootBuiltins x) (hlim : s1.heap.NoLimit) (hg : s1.gens = #[])
    (ha : s1.heap.get? a = some { cls := .type "list", data := .seq vs.toArray }) (hi : IntsAre vs ns) (hl : ns.length ≤ sizeLine) (hr : Room k callerA)
    (F : ∀ base : Heap, K.In base → base.Ns mainGlobals mg → FnS P w K mg base k fa fd [x] sp) (hbind : ∀ (s : Shared) (u : Value), BindsTo s fd ⟨[u], []⟩ [(x, u)])
    (hsp : ∀ H : Hp, Only H → SqL K H a (ns.map V.int) → sp [.ref a] H fun v _ => v = .bl true) :
    codeAny (model P w) callerA (.call (.ref fa) ⟨[.ref a], []⟩) (fun r s' => r = .ok (.ret (.bool true)) ∧ OldK s1.heap s'.heap ∧ s'.os = s1.os ∧ AllBare s'.gens) s1 := by
  have rv := vals_ints hi
  have lenV := hi.length
  -- whatever is tracked, if it is the script alone
  have main : ∀ H : Hp, Only H → SqL K H a (ns.map V.int) → HOk P w H s1.heap → (∀ b, H b ≠ none → b = a) → (H a ≠ none → K.lookup a = none) →
      codeAny (model P w) callerA (.call (.ref fa) ⟨[.ref a], []⟩) (fun r s' => r = .ok (.ret (.bool true)) ∧ OldK s1.heap s'.heap ∧ s'.os = s1.os ∧ AllBare s'.gens) s1 := by
    intro H hO hS hok hA hK
    have dictFree : ∀ {b : Addr} {o : Obj} {es : Array DictEntry} {ep : Nat}, s1.heap.get? b = some o → o.data = .dict es ep → H b = none := fun {b o es ep} e d => by
      cases q : H b with
      | none => rfl
      | some u =>
        have eb : b = a := hA b (by rw [q]; exact fun z => nomatch z)
        rw [eb, ha] at e
        cases e
        exact nomatch (show Data.seq vs.toArray _ = Data.dict es ep from d)
    have nsOf : ∀ {b : Addr} {m : Str → Option Value}, s1.heap.Ns b m → (hidT s1.heap H).Ns b m := fun {b m} ⟨o, es, ep, e, d, r⟩ => ⟨o, es, ep, hidT_get e (dictFree e d), d, r⟩
    have kIn : K.In (hidT s1.heap H) := fun b o e => hidT_get (KX b o e) (by
      cases q : H b with
      | none => rfl
      | some u =>
        have eb : b = a := hA b (by rw [q]; exact fun z => nomatch z)
        have ka := hK (by rw [← eb, q]; exact fun z => nomatch z)
        rw [eb, ka] at e
        cases e)
    have mod : Mod K mg (hidT s1.heap H) := ⟨kIn, nsOf hns, ⟨mb, nsOf hb, hbb⟩, let ⟨mc, h1, h2⟩ := hlim; ⟨mc, nsOf h1, h2⟩⟩
    have env : Env0 P w K mg (hidT s1.heap H) callerA [] s1 H := ⟨rfl, mod, fun b o e => of_hidT e, Nat.le_of_eq (hidT_size _ _), trivial, fun b z => (List.not_mem_nil (show b ∈ ([] : List Addr) from z)).elim, hok, AllBare.of_eq hg⟩
    refine codeAny_mono ((F _ kIn (nsOf hns)).run callerA [] s1 H ⟨[.ref a], []⟩ [.ref a] [.ref a] _ rfl hr env (hbind s1 (.ref a)) (.cons rfl .nil) (hsp H hO hS)) fun r s' h => ?_
    cases r with
    | error e => exact h.elim
    | ok fl =>
      cases fl with
      | ret u =>
        obtain ⟨v, H', os, bare, un, hok', r', q⟩ := h
        have ev : v = .bl true := q
        subst ev
        have eu : u = Value.bool true := r'
        subst eu
        refine ⟨rfl, OldK.of_keep fun b o e => ?_, os, bare⟩
        cases q2 : H b with
        | none => exact un.keep b o e q2 (fun z => List.not_mem_nil (show b ∈ ([] : List Addr) from z)) (fun z => List.not_mem_nil (show b ∈ ([] : List Addr) from z))
        | some u2 =>
          rcases hO b with z | ⟨ob, xs, z⟩
          · rw [q2] at z; cases z
          · have e1 := (hok b _ z).1
            have e2 := (hok' b _ (un.frzs b ob _ z)).1
            rw [e] at e1
            cases e1
            exact e2
      | _ => exact h.elim
  cases hk : K.lookup a with
  | some o =>
    have e := KX a o hk
    rw [ha] at e
    cases e
    exact main (fun _ => none) (fun _ => .inl rfl) (.inr ⟨_, vs.toArray, _, hk, rfl, rfl, rfl, by rw [List.size_toArray, lenV]; exact hl, by simpa using rv⟩) (fun b u z => nomatch z) (fun b z => absurd rfl z) fun z => absurd rfl z
  | none =>
    let Hs : Hp := fun b => if b = a then some (.frz { cls := .type "list", data := .seq vs.toArray } (.lst (ns.map V.int))) else none
    have atA : Hs a = some (.frz { cls := .type "list", data := .seq vs.toArray } (.lst (ns.map V.int))) := if_pos rfl
    have off : ∀ b, b ≠ a → Hs b = none := fun b z => if_neg z
    refine main Hs (fun b => ?_) (.inl (.inr ⟨_, atA⟩)) (fun b u z => ?_) (fun b z => ?_) fun _ => hk
    · by_cases hb : b = a
      · exact .inr ⟨_, _, by rw [hb]; exact atA⟩
      · exact .inl (off b hb)
    · by_cases hb : b = a
      · subst hb
        rw [atA] at z
        cases z
        exact ⟨ha, by rw [List.length_map]; exact hl, vs, _, rv, ha⟩
      · rw [off b hb] at z; cases z
    · by_cases hb : b = a
      · exact hb
      · exact absurd (off b hb) z
/-- the goal that the head leaves, from the law's promise -/
theorem walk_law {l : PySem.W.OpenLaw} {n k : Nat} {q : Program} {loose : List Str} {XP : (Str → Option Value) → Heap → Prop} {YP : World → Heap → Prop} {d : DefRec} {K : Params → Fg} {sp : World → SpS} {x : Str}
    (hn : l.most = some n) (hn2 : n ≤ sizeLine) (hdf : d.params.defaults = []) (hr : Room k callerA)
    (hY : ∀ (w : World) (h : Heap), YP w h → (K w.params).In h)
    (F : ∀ (w : World) (mg : Str → Option Value) (fa : Addr) (h : Heap), (K w.params).In h → h.Ns mainGlobals mg → mg d.name = some (.ref fa) →
      ∃ fd : FuncData, (∀ (s : Shared) (u : Value), BindsTo s fd ⟨[u], []⟩ [(x, u)]) ∧
        ∀ base : Heap, (K w.params).In base → base.Ns mainGlobals mg → FnS l.prog w (K w.params) mg base k fa fd [x] (sp w))
    (hsp : ∀ (w : World) (H : Hp) (a : Addr) (ns : List Int), ns.length ≤ n → Only H → SqL (K w.params) H a (ns.map V.int) → sp w [.ref a] H fun v _ => v = .bl true) :
    PySem.W.WalkO q loose XP YP l.row.toRowW d [] (fun f vs => PySem.call f vs) := by
  refine Att.attach_call hn hdf fun w s0 s1 mg mb fa o pm cd doc a vs ns G Y ho hd hcd hmg hobj hints hlen hg => ?_
  have KX := hY w _ Y
  obtain ⟨fd, hb, hF⟩ := F w mg fa _ KX G.T.g hmg
  exact law_run KX G.T.g G.T.b G.T.builtins G.T.nolimit hg hobj hints (Nat.le_trans hlen hn2) hr hF hb fun H hO hS => hsp w H a ns hlen hO hS
end Pu
namespace K11
open PySem PySem.Spec PyProof.Rows L2 Pu
noncomputable section
def B_law_draw : Sm := (seqS (iteS (binE (opF gtK) (potE 0 false) (constE (.int 0))) (seqS (potDivS 0 2 (varE 1))
    (retS (varE 2))) nxS)
    (seqS (potS 0 (binE (opF modK) (callE (cF intK) [(binE addV (binE mulV (potE 0 true) (constE (.int 40692))) (constE (.int 10513)))]) (constE (.int 2147483587))))
    (retS (binE (opF modK) (callE (cF intK) [(binE (opF fdivK) (binE (opF modK) (callE (cF intK) [(binE mulV (potE 0 true) (potE 0 true))]) (constE (.int 2147483549))) (constE (.int 43)))]) (varE 1)))))
def F_law_draw : Fn := defF 3 B_law_draw
def B_law_pick : Sm := (retS (binE ixV (varE 1) (callF F_law_draw [(varE 0), (callE lenV [(varE 1)])])))
def F_law_pick : Fn := defF 2 B_law_pick
def B_law_piece : Sm := (seqS (setS 1 (callF F_law_draw [(varE 0), (constE (.int 12))]))
    (seqS (iteS (binE (opF ltK) (varE 1) (constE (.int 4))) (retS (methE joinM (constE (.str "")) [(lcE (.nm 2) (rng1J (callF F_law_pick [(varE 0), (lstE [(constE (.int 1)), (constE (.int 2)), (constE (.int 3)), (constE (.int 11)), (constE (.int 12)), (constE (.int 13)), (constE (.int 14))])])) yesE (callF F_law_pick [(varE 0), (constE (.str "abz059"))]) [2])])) nxS)
    (seqS (iteS (binE (opF ltK) (varE 1) (constE (.int 6))) (retS (callF F_law_pick [(varE 0), (lstE [(constE (.str "cells")), (constE (.str "ban")), (constE (.str "0")), (constE (.str "10")), (constE (.str "007")), (constE (.str "12345678901")), (constE (.str "a234567890bc")), (constE (.str "end"))])])) nxS)
    (seqS (iteS (binE (opF eqK) (varE 1) (constE (.int 6))) (retS (callF F_law_pick [(varE 0), (lstE [(constE (.str "(")), (constE (.str ")")), (constE (.str ",")), (constE (.str ".")), (constE (.str "=")), (constE (.str "<")), (constE (.str "+")), (constE (.str "-")), (constE (.str "*")), (constE (.str "[")), (constE (.str "]"))])])) nxS)
    (seqS (iteS (binE (opF eqK) (varE 1) (constE (.int 7))) (retS (binE mulV (callF F_law_pick [(varE 0), (lstE [(constE (.str "0")), (constE (.str "9")), (constE (.str "01"))])]) (callF F_law_pick [(varE 0), (lstE [(constE (.int 1)), (constE (.int 24)), (constE (.int 600)), (constE (.int 2048)), (constE (.int 4096)), (constE (.int 4097))])]))) nxS)
    (seqS (iteS (binE (opF eqK) (varE 1) (constE (.int 8))) (retS (binE addV (constE (.str "#")) (callF F_law_pick [(varE 0), (lstE [(constE (.str "")), (constE (.str " a (")), (constE (.str "@!")), (constE (.str "1a")), (constE (.str "#"))])]))) nxS)
    (retS (callF F_law_pick [(varE 0), (lstE [(constE (.str " ")), (constE (.str "\n")), (constE (.str "  ")), (constE (.str "\n\n")), (constE (.str " ")), (constE (.str "A")), (constE (.str "@")), (constE (.str "_")), (constE (.str "/")), (constE (.str " (a) ")), (constE (.str "<-")), (constE (.str ";")), (constE (.str "\"")), (constE (.str ">")), (constE (.str "{"))])]))))))))
def F_law_piece : Fn := defF 3 B_law_piece
def B_law_size : Sm := (seqS (iteS (binE inV' (binE ixV (varE 0) (varE 1)) (constE (.str "(),.=<+-*[]"))) (retS (constE (.int 1))) nxS)
    (seqS (setS 2 (constE (.int 0)))
    (seqS (whileS (andE (binE (opF ltK) (binE addV (varE 1) (varE 2)) (callE lenV [(varE 0)])) (binE inV' (binE ixV (varE 0) (binE addV (varE 1) (varE 2))) (constE (.str "abcdefghijklmnopqrstuvwxyz0123456789")))) (setS 2 (binE addV (varE 2) (constE (.int 1)))))
    (seqS (setS 3 (slE (varE 0) (some (varE 1)) (some (binE addV (varE 1) (varE 2)))))
    (seqS (setS 4 (andE (binE (opF neK) (varE 3) (constE (.str ""))) (andE (binE ninV (binE ixV (varE 3) (constE (.int 0))) (constE (.str "0123456789"))) (binE (opF leK) (varE 2) (constE (.int 12))))))
    (seqS (setS 5 (andE (binE (opF neK) (varE 3) (constE (.str ""))) (andE (binE (opF leK) (varE 2) (constE (.int 4096))) (binE (opF eqK) (methE stripM (varE 3) [(constE (.str "0123456789"))]) (constE (.str ""))))))
    (retS (ifE (orE (varE 4) (varE 5)) (varE 2) (constE (.int 0))))))))))
def F_law_size : Fn := defF 6 B_law_size
def B_law_words : Sm := (seqS (setS 1 (lstE []))
    (seqS (forS (.tp [(.nm 2), (.nm 3)]) (enumI (methE splitM (varE 0) [(constE (.str "\n"))])) (seqS (setS 4 (constE (.int 0)))
    (whileS (andE (binE (opF ltK) (varE 4) (callE lenV [(varE 3)])) (binE (opF neK) (binE ixV (varE 3) (varE 4)) (constE (.str "#")))) (seqS (setS 5 (ifE (binE (opF eqK) (binE ixV (varE 3) (varE 4)) (constE (.str " "))) (constE (.int 1)) (callF F_law_size [(varE 3), (varE 4)])))
    (seqS (iteS (binE (opF eqK) (varE 5) (constE (.int 0))) (retS (tupE [(varE 1), (tupE [(varE 2), (varE 4)])])) nxS)
    (seqS (extS 1 (ifE (binE (opF neK) (binE ixV (varE 3) (varE 4)) (constE (.str " "))) (lstE [(tupE [(slE (varE 3) (some (varE 4)) (some (binE addV (varE 4) (varE 5)))), (varE 2), (varE 4)])]) (lstE [])))
    (setS 4 (binE addV (varE 4) (varE 5)))))))))
    (retS (tupE [(varE 1), (constE .none)]))))
def F_law_words : Fn := defF 6 B_law_words
def B_is_text_any : Sm := (retS (andE (isiE "str" (varE 0)) (binE (opF leK) (callE lenV [(varE 0)]) (constE (.int 60000)))))
def F_is_text_any : Fn := defF 1 B_is_text_any
def B_want_text : Sm := (iteS (notE (callF F_is_text_any [(varE 0)])) noS nxS)
def F_want_text : Fn := defF 1 B_want_text
def B_want_few_words : Sm := (iteS (binE (opF gtK) (callE lenV [(varE 0)]) (constE (.int 12000))) noS nxS)
def F_want_few_words : Fn := defF 1 B_want_few_words
def B_remark_end : Sm := (seqS (setS 2 (methE find3M (varE 0) [(constE (.str "\n")), (varE 1)]))
    (retS (ifE (binE (opF ltK) (varE 2) (constE (.int 0))) (callE lenV [(varE 0)]) (varE 2))))
def F_remark_end : Fn := defF 3 B_remark_end
def B_run_size : Sm := (seqS (setS 2 (constE (.int 0)))
    (seqS (whileS (andE (binE (opF ltK) (binE addV (varE 1) (varE 2)) (callE lenV [(varE 0)])) (orE (binE inV' (binE ixV (varE 0) (binE addV (varE 1) (varE 2))) (constE (.str "abcdefghijklmnopqrstuvwxyz"))) (binE inV' (binE ixV (varE 0) (binE addV (varE 1) (varE 2))) (constE (.str "0123456789"))))) (setS 2 (binE addV (varE 2) (constE (.int 1)))))
    (retS (varE 2))))
def F_run_size : Fn := defF 3 B_run_size
def B_is_run_word : Sm := (seqS (iteS (binE inV' (binE ixV (varE 0) (constE (.int 0))) (constE (.str "abcdefghijklmnopqrstuvwxyz"))) (retS (binE (opF leK) (callE lenV [(varE 0)]) (constE (.int 12)))) nxS)
    (retS (andE (binE (opF leK) (callE lenV [(varE 0)]) (constE (.int 4096))) (callE (cF allK) [(lcE (.nm 1) (itJ (varE 0)) yesE (binE inV' (varE 1) (constE (.str "0123456789"))) [1])]))))
def F_is_run_word : Fn := defF 2 B_is_run_word
def B_text_word_size : Sm := (seqS (iteS (binE inV' (binE ixV (varE 0) (varE 1)) (constE (.str "(),.=<+-*[]"))) (retS (constE (.int 1))) nxS)
    (seqS (setS 2 (callF F_run_size [(varE 0), (varE 1)]))
    (retS (ifE (andE (binE (opF gtK) (varE 2) (constE (.int 0))) (callF F_is_run_word [(slE (varE 0) (some (varE 1)) (some (binE addV (varE 1) (varE 2))))])) (varE 2) (constE (.int 0))))))
def F_text_word_size : Fn := defF 3 B_text_word_size
def B_words_apart : Sm := (seqS (parS [1, 2, 3, 4] [(lstE []), (constE (.int 0)), (constE (.int 0)), (constE (.int 0))])
    (seqS (whileS (binE (opF ltK) (varE 4) (callE lenV [(varE 0)])) (iteS (binE (opF eqK) (binE ixV (varE 0) (varE 4)) (constE (.str "\n"))) (parS [2, 3, 4] [(binE addV (varE 2) (constE (.int 1))), (binE addV (varE 4) (constE (.int 1))), (binE addV (varE 4) (constE (.int 1)))]) (iteS (binE (opF eqK) (binE ixV (varE 0) (varE 4)) (constE (.str " "))) (setS 4 (binE addV (varE 4) (constE (.int 1)))) (iteS (binE (opF eqK) (binE ixV (varE 0) (varE 4)) (constE (.str "#"))) (setS 4 (callF F_remark_end [(varE 0), (varE 4)])) (seqS (setS 5 (callF F_text_word_size [(varE 0), (varE 4)]))
    (seqS (iteS (binE (opF eqK) (varE 5) (constE (.int 0))) (retS (tupE [(varE 1), (tupE [(varE 2), (binE (opF subK) (varE 4) (varE 3))]), (tupE [(varE 2), (binE (opF subK) (varE 4) (varE 3))])])) nxS)
    (seqS (appS 1 (tupE [(slE (varE 0) (some (varE 4)) (some (binE addV (varE 4) (varE 5)))), (varE 2), (binE (opF subK) (varE 4) (varE 3))]))
    (setS 4 (binE addV (varE 4) (varE 5))))))))))
    (retS (tupE [(varE 1), (constE .none), (tupE [(varE 2), (binE (opF subK) (varE 4) (varE 3))])]))))
def F_words_apart : Fn := defF 6 B_words_apart
def B_text_words : Sm := (seqS (dropS (callF F_want_text [(varE 0)]))
    (seqS (setS 1 (binE ixV (callF F_words_apart [(varE 0)]) (constE (.int 0))))
    (seqS (dropS (callF F_want_few_words [(varE 1)]))
    (retS (varE 1)))))
def F_text_words : Fn := defF 2 B_text_words
def B_wrong_sign : Sm := (seqS (dropS (callF F_want_text [(varE 0)]))
    (retS (binE ixV (callF F_words_apart [(varE 0)]) (constE (.int 1)))))
def F_wrong_sign : Fn := defF 1 B_wrong_sign
def B_law_right : Sm := (seqS (forS (.nm 1) (rng1I (constE (.int 3))) (seqS (setS 2 (lcE (.nm 9) (rng1J (callF F_law_draw [(varE 0), (constE (.int 40))])) yesE (callF F_law_piece [(varE 0)]) [9]))
    (seqS (setS 3 (methE joinM (callF F_law_pick [(varE 0), (lstE [(constE (.str "")), (constE (.str " ")), (constE (.str " "))])]) [(varE 2)]))
    (iteS (binE (opF ltK) (callE lenV [(varE 3)]) (constE (.int 59000))) (seqS (unpS [(.nm 4), (.nm 5)] (callF F_law_words [(varE 3)]))
    (seqS (setS 6 (callF F_text_words [(varE 3)]))
    (seqS (iteS (binE (opF neK) (callE (cF reprK) [(lstE [(varE 6), (callKF F_text_words [0] [(varE 3)]), (callF F_wrong_sign [(varE 3)]), (callKF F_wrong_sign [0] [(varE 3)])])]) (callE (cF reprK) [(lstE [(varE 4), (varE 4), (varE 5), (varE 5)])])) (retS (constE (.bool false))) nxS)
    (seqS (appS 6 (constE .none))
    (seqS (unpS [(.nm 7), (.nm 8)] (callF F_law_words [(binE addV (varE 3) (constE (.str "\n0 x")))]))
    (iteS (binE (opF neK) (callE (cF reprK) [(lstE [(callF F_text_words [(varE 3)]), (callF F_text_words [(binE addV (varE 3) (constE (.str "\n0 x")))]), (callF F_wrong_sign [(binE addV (varE 3) (constE (.str "\n0 x")))])])]) (callE (cF reprK) [(lstE [(varE 4), (varE 7), (varE 8)])])) (retS (constE (.bool false))) nxS)))))) nxS))))
    (retS (constE (.bool true))))
def F_law_right : Fn := defF 10 B_law_right
end

theorem yes_ap (sl : Sl) (p : Pot) : yesE sl p = some (.sh (.bool true), p) := rfl
theorem eq_str (a b : Str) : eqK (.str a) (.str b) = some (.bool (decide (a = b))) := rfl
theorem ne_str (a b : Str) : neK (.str a) (.str b) = some (.bool (!decide (a = b))) := rfl
theorem shaped_int (i : Int) : SeqAt.shaped (.int i) = true := rfl
theorem eqv_int (i j : Int) : PyData.eqv (.int i) (.int j) = decide (i = j) := by
  rw [Bool.eq_iff_iff]
  simp [PyData.eqv]
theorem eq_int (i j : Int) : eqK (.int i) (.int j) = some (.bool (decide (i = j))) := by
  unfold eqK
  simp only [shaped_int, and_self, if_true, eqv_int]
theorem ne_int (i j : Int) : neK (.int i) (.int j) = some (.bool (!decide (i = j))) := by
  unfold neK
  simp only [shaped_int, and_self, if_true, eqv_int]
theorem draw (p : Pot) (m : Int) (h0 : 0 < m) (h1 : m < 1073741824) : ∃ d p', F_law_draw [.pot, .sh (.int m)] p = some (.sh (.int d), p') ∧ 0 ≤ d ∧ d < m := by
  have hm : ∀ x : Int, 0 ≤ x % m ∧ x % m < m := fun x => ⟨Int.emod_nonneg _ (by omega), Int.emod_lt_of_pos _ h0⟩
  have e1 : (-(2 ^ 64) < p.2 ∧ p.2 < 2 ^ 64) ∨ (-(2 ^ 64) < (40692 : Int) ∧ (40692 : Int) < 2 ^ 64) := .inr ⟨by decide, by decide⟩
  have e2 : (0 : Int) < 2147483587 := by decide
  have e3 : (0 : Int) < 2147483549 := by decide
  have e4 : (0 : Int) < 43 ∧ (43 : Int) < 1073741824 := by decide
  have e5 : ∀ x : Int, (-(2 ^ 64) < x % 2147483587 ∧ x % 2147483587 < 2 ^ 64) ∨ (-(2 ^ 64) < x % 2147483587 ∧ x % 2147483587 < 2 ^ 64) := fun x => .inl ⟨by omega, by omega⟩
  unfold F_law_draw B_law_draw defF
  by_cases hp : 0 < p.1
  · simp only [fillSl, List.length_cons, List.length_nil, List.replicate, List.cons_append, List.nil_append, List.getElem?_cons_zero, List.getElem?_cons_succ, List.set_cons_zero, List.set_cons_succ, Nat.reduceAdd, Nat.reduceSub, Nat.reduceLT, seqS, nxS, setS, dropS, retS, iteS, retV, asg, potS, potDivS, appS, extS, unpS, parS, asgPs, asgP, asgD, asgDs, calm, binE, unE, potE, constE, varE, andE, orE, notE, ifE, tupE, lstE, slE, optE, callE, callF, callKF, methE, isiE, argsE, argsOf, datsOf, resV, newT, newL, shq, shf, opF, cF, addV, mulV, ixV, slV, gtK, ltK, leK, geK, subK, addK, mulK, fdivK, modK, powK, eq_int, ne_int, eq_str, ne_str, intK, absK, isiB, Val.dat, Val.items, flat, flatA, isL, Bool.and_true, Bool.true_and, Bool.false_and, Bool.and_false, if_true, if_false, Bool.false_eq_true, Option.map_some, Option.map_none, Bool.not_true, Bool.not_false, decide_true, decide_false, reduceIte, reduceCtorEq, and_self, true_and, and_true, yes_ap, sizeLine_eq, Nat.reduceLeDiff, hp, h0, h1, decide_true, and_self]
    exact ⟨_, _, rfl, hm _⟩
  · simp only [fillSl, List.length_cons, List.length_nil, List.replicate, List.cons_append, List.nil_append, List.getElem?_cons_zero, List.getElem?_cons_succ, List.set_cons_zero, List.set_cons_succ, Nat.reduceAdd, Nat.reduceSub, Nat.reduceLT, seqS, nxS, setS, dropS, retS, iteS, retV, asg, potS, potDivS, appS, extS, unpS, parS, asgPs, asgP, asgD, asgDs, calm, binE, unE, potE, constE, varE, andE, orE, notE, ifE, tupE, lstE, slE, optE, callE, callF, callKF, methE, isiE, argsE, argsOf, datsOf, resV, newT, newL, shq, shf, opF, cF, addV, mulV, ixV, slV, gtK, ltK, leK, geK, subK, addK, mulK, fdivK, modK, powK, eq_int, ne_int, eq_str, ne_str, intK, absK, isiB, Val.dat, Val.items, flat, flatA, isL, Bool.and_true, Bool.true_and, Bool.false_and, Bool.and_false, if_true, if_false, Bool.false_eq_true, Option.map_some, Option.map_none, Bool.not_true, Bool.not_false, decide_true, decide_false, reduceIte, reduceCtorEq, and_self, true_and, and_true, yes_ap, sizeLine_eq, Nat.reduceLeDiff, hp, h0, e1, e2, e3, e4, e5, decide_false]
    exact ⟨_, _, rfl, hm _⟩

theorem pick (p : Pot) (ds : List PyData) (h0 : ds ≠ []) (h1 : ds.length < 1073741824) (hf : ds.all flat = true) : ∃ d ∈ ds, ∃ p', F_law_pick [.pot, .sh (.list ds)] p = some (.sh d, p') := by
  have hl : 0 < ds.length := List.length_pos_iff.mpr h0
  obtain ⟨i, p', e, i0, i1⟩ := draw p ds.length (by omega) (by omega)
  obtain ⟨k, rfl⟩ : ∃ k : Nat, i = k := ⟨i.toNat, by omega⟩
  have hk : k < ds.length := by omega
  have ha : atI ds (k : Int) = some ds[k] := atI_nat (List.getElem?_eq_getElem hk)
  have hm : ds[k] ∈ ds := List.getElem_mem hk
  have hfl : flat ds[k] = true := List.all_eq_true.mp hf _ hm
  refine ⟨ds[k], hm, p', ?_⟩
  unfold F_law_pick B_law_pick defF
  generalize ds[k] = d at ha hfl
  simp only [fillSl, List.length_cons, List.length_nil, List.replicate, List.cons_append, List.nil_append, List.getElem?_cons_zero, List.getElem?_cons_succ, List.set_cons_zero, List.set_cons_succ, Nat.reduceAdd, Nat.reduceSub, Nat.reduceLT, seqS, nxS, setS, dropS, retS, iteS, retV, asg, potS, potDivS, appS, extS, unpS, parS, asgPs, asgP, asgD, asgDs, calm, binE, unE, potE, constE, varE, andE, orE, notE, ifE, tupE, lstE, slE, optE, callE, callF, callKF, methE, isiE, argsE, argsOf, datsOf, resV, newT, newL, shq, shf, opF, cF, addV, mulV, ixV, slV, gtK, ltK, leK, geK, subK, addK, mulK, fdivK, modK, powK, eq_int, ne_int, eq_str, ne_str, intK, absK, isiB, Val.dat, Val.items, flat, flatA, isL, Bool.and_true, Bool.true_and, Bool.false_and, Bool.and_false, if_true, if_false, Bool.false_eq_true, Option.map_some, Option.map_none, Bool.not_true, Bool.not_false, decide_true, decide_false, reduceIte, reduceCtorEq, and_self, true_and, and_true, yes_ap, sizeLine_eq, Nat.reduceLeDiff, lenV, e, ha, Pu.shf]
  cases d <;> first | (cases hfl; done) | rfl

theorem pickS (p : Pot) (z : Str) (h0 : z.cps.toList ≠ []) (h1 : z.length < 1000000) : ∃ c ∈ z.cps.toList, ∃ p', F_law_pick [.pot, .sh (.str z)] p = some (.sh (.str ⟨#[c]⟩), p') := by
  have hz : z.length = z.cps.toList.length := by simp [Str.length]
  have hl : 0 < z.cps.toList.length := List.length_pos_iff.mpr h0
  have hs : z.length ≤ 16777216 := by omega
  obtain ⟨i, p', e, i0, i1⟩ := draw p z.length (by omega) (by omega)
  obtain ⟨k, rfl⟩ : ∃ k : Nat, i = k := ⟨i.toNat, by omega⟩
  have hk : k < z.cps.toList.length := by omega
  have ha : atI z.cps.toList (k : Int) = some z.cps.toList[k] := atI_nat (List.getElem?_eq_getElem hk)
  refine ⟨_, List.getElem_mem hk, p', ?_⟩
  unfold F_law_pick B_law_pick defF
  simp only [fillSl, List.length_cons, List.length_nil, List.replicate, List.cons_append, List.nil_append, List.getElem?_cons_zero, List.getElem?_cons_succ, List.set_cons_zero, List.set_cons_succ, Nat.reduceAdd, Nat.reduceSub, Nat.reduceLT, seqS, nxS, setS, dropS, retS, iteS, retV, asg, potS, potDivS, appS, extS, unpS, parS, asgPs, asgP, asgD, asgDs, calm, binE, unE, potE, constE, varE, andE, orE, notE, ifE, tupE, lstE, slE, optE, callE, callF, callKF, methE, isiE, argsE, argsOf, datsOf, resV, newT, newL, shq, shf, opF, cF, addV, mulV, ixV, slV, gtK, ltK, leK, geK, subK, addK, mulK, fdivK, modK, powK, eq_int, ne_int, eq_str, ne_str, intK, absK, isiB, Val.dat, Val.items, flat, flatA, isL, Bool.and_true, Bool.true_and, Bool.false_and, Bool.and_false, if_true, if_false, Bool.false_eq_true, Option.map_some, Option.map_none, Bool.not_true, Bool.not_false, decide_true, decide_false, reduceIte, reduceCtorEq, and_self, true_and, and_true, yes_ap, sizeLine_eq, Nat.reduceLeDiff, lenV, hs, e, ha]
theorem compL_all {t : Tg} {fe : Ev} {sl : Sl} {C : PyData → Prop} : ∀ (ds : List PyData), (∀ d ∈ ds, ∃ sl1, asgD t d sl = some sl1 ∧ ∀ p, ∃ val p' e, fe sl1 p = some (val, p') ∧ val.dat = some (e, true) ∧ C e) →
    ∀ p, ∃ es p', compL t yesE fe sl ds p = some (es, p') ∧ es.length = ds.length ∧ ∀ e ∈ es, C e
  | [], _, p => ⟨[], p, rfl, rfl, fun _ h => nomatch h⟩
  | d :: ds, h, p => by
    obtain ⟨sl1, e1, f⟩ := h d (List.mem_cons_self ..)
    obtain ⟨val, p1, e, e2, e3, c⟩ := f p
    obtain ⟨es, p2, e4, hl, hc⟩ := compL_all ds (fun d' m => h d' (List.mem_cons_of_mem _ m)) p1
    refine ⟨e :: es, p2, ?_, by simp [hl], fun x m => ?_⟩
    · unfold compL
      simp only [e1, yes_ap, e2, e3, e4]
    · rcases List.mem_cons.mp m with rfl | m
      · exact c
      · exact hc x m
/-! signs -/
def sg (c : Nat) : Bool := [40, 41, 44, 46, 61, 60, 43, 45, 42, 91, 93].contains c
def lt (c : Nat) : Bool := decide (97 ≤ c) && decide (c ≤ 122)
def fg (c : Nat) : Bool := decide (48 ≤ c) && decide (c ≤ 57)
def rn (c : Nat) : Bool := lt c || fg c
/-- how many words may begin -/
def T : Bool → List Nat → Nat
  | _, [] => 0
  | b, c :: t => (if sg c = true then 1 else if rn c = true then (if b = true then 0 else 1) else 0) + T (rn c) t
theorem T_le : ∀ L : List Nat, T true L ≤ T false L
  | [] => Nat.le_refl _
  | c :: t => by unfold T; split <;> (try split) <;> simp
theorem T_le2 (b : Bool) (L : List Nat) : T b L ≤ T false L := by
  cases b
  · exact Nat.le_refl _
  · exact T_le L
theorem T_app : ∀ (b : Bool) (L M : List Nat), T b (L ++ M) ≤ T b L + T false M
  | b, [], M => by simpa [T] using T_le2 b M
  | b, c :: t, M => by
    have := T_app (rn c) t M
    show _ + T (rn c) (t ++ M) ≤ _ + T (rn c) t + T false M
    omega
theorem T_run : ∀ (L : List Nat), (∀ c ∈ L, rn c = true ∧ sg c = false) → T false L ≤ 1 ∧ T true L = 0
  | [], _ => ⟨Nat.zero_le _, rfl⟩
  | c :: t, h => by
    obtain ⟨h1, h2⟩ := h c (List.mem_cons_self ..)
    have ih := T_run t fun d m => h d (List.mem_cons_of_mem _ m)
    unfold T
    simp only [h1, h2, ih.2]
    exact ⟨by decide, by decide⟩
def okS (z : Str) : Bool := decide (z.length ≤ 9000) && decide (T false z.cps.toList ≤ 14)
def okD : PyData → Bool
  | .str z => okS z
  | _ => false
theorem okD_of {d : PyData} (h : okD d = true) : ∃ z, d = .str z ∧ z.length ≤ 9000 ∧ T false z.cps.toList ≤ 14 := by
  cases d with
  | str z => simp only [okD, okS, Bool.and_eq_true, decide_eq_true_eq] at h; exact ⟨z, rfl, h⟩
  | _ => cases h
theorem okD_to {z : Str} (h1 : z.length ≤ 9000) (h2 : T false z.cps.toList ≤ 14) : okD (.str z) = true := by
  simp only [okD, okS, Bool.and_eq_true, decide_eq_true_eq]; exact ⟨h1, h2⟩

theorem T_join (sep : Str) (hs : T false sep.cps.toList = 0) : ∀ ys : List Str, T false (Str.join sep ys).cps.toList ≤ (ys.map fun y => T false y.cps.toList).sum
  | [] => Nat.zero_le _
  | [y] => by simp [Str.join]
  | y :: z :: r => by
    have ih := T_join sep hs (z :: r)
    have e : (Str.join sep (y :: z :: r)).cps.toList = y.cps.toList ++ sep.cps.toList ++ (Str.join sep (z :: r)).cps.toList := by
      show (y ++ sep ++ Str.join sep (z :: r)).cps.toList = _
      rw [Str.cps_append, Str.cps_append, Array.toList_append, Array.toList_append]
    rw [e, List.map_cons, List.sum_cons]
    have a := T_app false (y.cps.toList ++ sep.cps.toList) (Str.join sep (z :: r)).cps.toList
    have b := T_app false y.cps.toList sep.cps.toList
    omega
theorem mem_join0 : ∀ (ys : List Str) (c : Nat), c ∈ (Str.join ("" : Str) ys).cps.toList → ∃ y ∈ ys, c ∈ y.cps.toList
  | [], c, h => by simp [Str.join, Str.empty] at h
  | [y], c, h => ⟨y, List.mem_cons_self .., h⟩
  | y :: z :: r, c, h => by
    have e : (Str.join ("" : Str) (y :: z :: r)).cps.toList = y.cps.toList ++ (Str.join ("" : Str) (z :: r)).cps.toList := by
      show (y ++ ("" : Str) ++ Str.join ("" : Str) (z :: r)).cps.toList = _
      rw [Str.cps_append, Str.cps_append, Array.toList_append, Array.toList_append]
      rw [show (("" : Str)).cps.toList = [] from rfl, List.append_nil]
    rw [e, List.mem_append] at h
    rcases h with h | h
    · exact ⟨y, List.mem_cons_self .., h⟩
    · obtain ⟨w, m, hw⟩ := mem_join0 (z :: r) c h
      exact ⟨w, List.mem_cons_of_mem _ m, hw⟩
theorem join_eqS (y : Str) (parts : List Str) : Txt.join y parts = Str.join y parts := StrLaws.glued_eq_join y parts
theorem join_len (sep : Str) (ys : List Str) : (Txt.join sep ys).length = (ys.map (·.length)).sum + (ys.length - 1) * sep.length := size_glued sep ys
theorem sum_le {α : Type} {f : α → Nat} {b : Nat} : ∀ ys : List α, (∀ y ∈ ys, f y ≤ b) → (ys.map f).sum ≤ ys.length * b
  | [], _ => Nat.zero_le _
  | y :: r, h => by
    have ih := sum_le r fun z m => h z (List.mem_cons_of_mem _ m)
    have h1 := h y (List.mem_cons_self ..)
    rw [List.map_cons, List.sum_cons, List.length_cons, Nat.succ_mul]
    omega
theorem strs_of : ∀ {es : List PyData} {C : Str → Prop}, (∀ e ∈ es, ∃ z, e = .str z ∧ C z) → ∃ zs : List Str, es = zs.map .str ∧ zs.length = es.length ∧ ∀ z ∈ zs, C z
  | [], _, _ => ⟨[], rfl, rfl, fun _ h => nomatch h⟩
  | e :: es, C, h => by
    obtain ⟨z, rfl, c⟩ := h e (List.mem_cons_self ..)
    obtain ⟨zs, e1, e2, hc⟩ := strs_of (es := es) (C := C) fun x m => h x (List.mem_cons_of_mem _ m)
    refine ⟨z :: zs, by rw [List.map_cons, e1], by simp [e2], fun x m => ?_⟩
    rcases List.mem_cons.mp m with rfl | m
    · exact c
    · exact hc x m
theorem piece (p : Pot) : ∃ z p', F_law_piece [.pot] p = some (.sh (.str z), p') ∧ z.length ≤ 9001 ∧ T false z.cps.toList ≤ 14 := by
  obtain ⟨w, p1, e1, w0, w1⟩ := draw p 12 (by decide) (by decide)
  unfold F_law_piece B_law_piece defF
  have pk : ∀ (ds : List PyData) (p : Pot), ds ≠ [] → ds.length < 1073741824 → ds.all okD = true → ∃ z p', F_law_pick [.pot, .sh (.list ds)] p = some (.sh (.str z), p') ∧ z.length ≤ 9000 ∧ T false z.cps.toList ≤ 14 := fun ds p h0 h1 hk => by
    obtain ⟨d, hd, p', e⟩ := pick p ds h0 h1 (List.all_eq_true.mpr fun d m => by
      obtain ⟨z, rfl, _⟩ := okD_of (List.all_eq_true.mp hk d m); rfl)
    obtain ⟨z, rfl, h2⟩ := okD_of (List.all_eq_true.mp hk d hd)
    exact ⟨z, p', e, h2⟩
  by_cases h4 : w < 4
  · obtain ⟨d, hd, p2, e2⟩ := pick p1 [.int 1, .int 2, .int 3, .int 11, .int 12, .int 13, .int 14] (by decide) (by decide) (by decide)
    obtain ⟨n, rfl, hn0, hn⟩ : ∃ n : Int, d = .int n ∧ 0 ≤ n ∧ n ≤ 14 := by
      simp only [List.mem_cons, List.not_mem_nil, or_false] at hd
      rcases hd with rfl | rfl | rfl | rfl | rfl | rfl | rfl <;> exact ⟨_, rfl, by decide, by decide⟩
    have hr : (-(2 ^ 62) ≤ n ∧ n < 2 ^ 62) := ⟨by omega, by omega⟩
    obtain ⟨es, p3, e3, hl, hes⟩ := compL_all (t := .nm 2) (fe := callF F_law_pick [varE 0, constE (.str "abz059")]) (sl := [.pot, .sh (.int w), .un]) (C := fun e => ∃ z, e = .str z ∧ (z.length = 1 ∧ ∀ c ∈ z.cps.toList, rn c = true ∧ sg c = false)) (rangeD 0 n.toNat)
      (fun d _ => ⟨_, rfl, fun p => by
        obtain ⟨c, hc, p', e⟩ := pickS p "abz059" (by decide) (by decide)
        refine ⟨.sh (.str ⟨#[c]⟩), p', .str ⟨#[c]⟩, ?_, rfl, _, rfl, rfl, ?_⟩
        · simp only [fillSl, List.length_cons, List.length_nil, List.replicate, List.cons_append, List.nil_append, List.getElem?_cons_zero, List.getElem?_cons_succ, List.set_cons_zero, List.set_cons_succ, Nat.reduceAdd, Nat.reduceSub, Nat.reduceLT, seqS, nxS, setS, dropS, retS, iteS, retV, asg, potS, potDivS, appS, extS, unpS, parS, asgPs, asgP, asgD, asgDs, calm, binE, unE, potE, constE, varE, andE, orE, notE, ifE, tupE, lstE, slE, optE, callE, callF, callKF, methE, isiE, argsE, argsOf, datsOf, resV, newT, newL, shq, shf, opF, cF, addV, mulV, ixV, slV, gtK, ltK, leK, geK, subK, addK, mulK, fdivK, modK, powK, eq_int, ne_int, eq_str, ne_str, intK, absK, isiB, Val.dat, Val.items, flat, flatA, isL, Bool.and_true, Bool.true_and, Bool.false_and, Bool.and_false, if_true, if_false, Bool.false_eq_true, Option.map_some, Option.map_none, Bool.not_true, Bool.not_false, decide_true, decide_false, reduceIte, reduceCtorEq, and_self, true_and, and_true, yes_ap, sizeLine_eq, Nat.reduceLeDiff, e]
        · intro c' hc'
          have : c' = c := by simpa using hc'
          subst this
          have hc : c' ∈ [97, 98, 122, 48, 53, 57] := hc
          simp only [List.mem_cons, List.not_mem_nil, or_false] at hc
          rcases hc with rfl | rfl | rfl | rfl | rfl | rfl <;> decide⟩) p2
    obtain ⟨zs, rfl, hzl, hz⟩ := strs_of hes
    have hl2 : zs.length ≤ 14 := by
      rw [hzl, hl]
      simp only [rangeD, List.length_map, List.length_range]
      omega
    have s1 : (zs.map (·.length)).sum ≤ zs.length * 1 := sum_le zs fun z m => Nat.le_of_eq (hz z m).1
    have j1 : (zs.map (·.length)).sum + zs.length * (Str.ofString "").length ≤ 16777216 := by
      rw [show (Str.ofString "").length = 0 from rfl]; omega
    have lz : (zs.map PyData.str).length ≤ 16777216 := by rw [List.length_map]; omega
    simp only [fillSl, List.length_cons, List.length_nil, List.replicate, List.cons_append, List.nil_append, List.getElem?_cons_zero, List.getElem?_cons_succ, List.set_cons_zero, List.set_cons_succ, Nat.reduceAdd, Nat.reduceSub, Nat.reduceLT, seqS, nxS, setS, dropS, retS, iteS, retV, asg, potS, potDivS, appS, extS, unpS, parS, asgPs, asgP, asgD, asgDs, calm, binE, unE, potE, constE, varE, andE, orE, notE, ifE, tupE, lstE, slE, optE, callE, callF, callKF, methE, isiE, argsE, argsOf, datsOf, resV, newT, newL, shq, shf, opF, cF, addV, mulV, ixV, slV, gtK, ltK, leK, geK, subK, addK, mulK, fdivK, modK, powK, eq_int, ne_int, eq_str, ne_str, intK, absK, isiB, Val.dat, Val.items, flat, flatA, isL, Bool.and_true, Bool.true_and, Bool.false_and, Bool.and_false, if_true, if_false, Bool.false_eq_true, Option.map_some, Option.map_none, Bool.not_true, Bool.not_false, decide_true, decide_false, reduceIte, reduceCtorEq, and_self, true_and, and_true, yes_ap, sizeLine_eq, Nat.reduceLeDiff, e1, e2, h4, lcE, rng1J, hr, wipeSl, e3, joinM, strsOf_map, j1, lz]
    refine ⟨_, _, rfl, ?_, ?_⟩
    · rw [join_len, show (Str.ofString "").length = 0 from rfl]; omega
    · rw [join_eqS]
      refine Nat.le_trans (T_run _ fun c hc => ?_).1 (by decide)
      obtain ⟨y, m, hy⟩ := mem_join0 zs c hc
      exact (hz y m).2 c hy
  by_cases h6 : w < 6
  · obtain ⟨z, p2, e2, hz⟩ := pk [.str "cells", .str "ban", .str "0", .str "10", .str "007", .str "12345678901", .str "a234567890bc", .str "end"] p1 (by decide) (by decide) (by decide)
    simp only [fillSl, List.length_cons, List.length_nil, List.replicate, List.cons_append, List.nil_append, List.getElem?_cons_zero, List.getElem?_cons_succ, List.set_cons_zero, List.set_cons_succ, Nat.reduceAdd, Nat.reduceSub, Nat.reduceLT, seqS, nxS, setS, dropS, retS, iteS, retV, asg, potS, potDivS, appS, extS, unpS, parS, asgPs, asgP, asgD, asgDs, calm, binE, unE, potE, constE, varE, andE, orE, notE, ifE, tupE, lstE, slE, optE, callE, callF, callKF, methE, isiE, argsE, argsOf, datsOf, resV, newT, newL, shq, shf, opF, cF, addV, mulV, ixV, slV, gtK, ltK, leK, geK, subK, addK, mulK, fdivK, modK, powK, eq_int, ne_int, eq_str, ne_str, intK, absK, isiB, Val.dat, Val.items, flat, flatA, isL, Bool.and_true, Bool.true_and, Bool.false_and, Bool.and_false, if_true, if_false, Bool.false_eq_true, Option.map_some, Option.map_none, Bool.not_true, Bool.not_false, decide_true, decide_false, reduceIte, reduceCtorEq, and_self, true_and, and_true, yes_ap, sizeLine_eq, Nat.reduceLeDiff, e1, e2, h4, h6]
    exact ⟨_, _, rfl, by omega, hz.2⟩
  by_cases h7 : w = 6
  · obtain ⟨z, p2, e2, hz⟩ := pk [.str "(", .str ")", .str ",", .str ".", .str "=", .str "<", .str "+", .str "-", .str "*", .str "[", .str "]"] p1 (by decide) (by decide) (by decide)
    subst h7
    simp only [fillSl, List.length_cons, List.length_nil, List.replicate, List.cons_append, List.nil_append, List.getElem?_cons_zero, List.getElem?_cons_succ, List.set_cons_zero, List.set_cons_succ, Nat.reduceAdd, Nat.reduceSub, Nat.reduceLT, seqS, nxS, setS, dropS, retS, iteS, retV, asg, potS, potDivS, appS, extS, unpS, parS, asgPs, asgP, asgD, asgDs, calm, binE, unE, potE, constE, varE, andE, orE, notE, ifE, tupE, lstE, slE, optE, callE, callF, callKF, methE, isiE, argsE, argsOf, datsOf, resV, newT, newL, shq, shf, opF, cF, addV, mulV, ixV, slV, gtK, ltK, leK, geK, subK, addK, mulK, fdivK, modK, powK, eq_int, ne_int, eq_str, ne_str, intK, absK, isiB, Val.dat, Val.items, flat, flatA, isL, Bool.and_true, Bool.true_and, Bool.false_and, Bool.and_false, if_true, if_false, Bool.false_eq_true, Option.map_some, Option.map_none, Bool.not_true, Bool.not_false, decide_true, decide_false, reduceIte, reduceCtorEq, and_self, true_and, and_true, yes_ap, sizeLine_eq, Nat.reduceLeDiff, e1, e2, h4, h6, Int.reduceLT]
    exact ⟨_, _, rfl, by omega, hz.2⟩
  by_cases h8 : w = 7
  · obtain ⟨d, hd, p2, e2⟩ := pick p1 [.str "0", .str "9", .str "01"] (by decide) (by decide) (by decide)
    obtain ⟨z, rfl, hz1, hz2⟩ : ∃ z : Str, d = .str z ∧ z.length ≤ 2 ∧ ∀ c ∈ z.cps.toList, rn c = true ∧ sg c = false := by
      simp only [List.mem_cons, List.not_mem_nil, or_false] at hd
      rcases hd with rfl | rfl | rfl <;> exact ⟨_, rfl, by decide, by decide⟩
    obtain ⟨d, hd, p3, e3⟩ := pick p2 [.int 1, .int 24, .int 600, .int 2048, .int 4096, .int 4097] (by decide) (by decide) (by decide)
    obtain ⟨n, rfl, hn0, hn⟩ : ∃ n : Int, d = .int n ∧ 0 ≤ n ∧ n ≤ 4097 := by
      simp only [List.mem_cons, List.not_mem_nil, or_false] at hd
      rcases hd with rfl | rfl | rfl | rfl | rfl | rfl <;> exact ⟨_, rfl, by decide, by decide⟩
    have hm : z.length * n.toNat ≤ 2 * 4097 := Nat.mul_le_mul hz1 (by omega)
    have hr : -(2 ^ 62) ≤ n ∧ n ≤ 1000000 ∧ z.length * n.toNat ≤ 16777216 := ⟨by omega, by omega, by omega⟩
    subst h8
    simp only [fillSl, List.length_cons, List.length_nil, List.replicate, List.cons_append, List.nil_append, List.getElem?_cons_zero, List.getElem?_cons_succ, List.set_cons_zero, List.set_cons_succ, Nat.reduceAdd, Nat.reduceSub, Nat.reduceLT, seqS, nxS, setS, dropS, retS, iteS, retV, asg, potS, potDivS, appS, extS, unpS, parS, asgPs, asgP, asgD, asgDs, calm, binE, unE, potE, constE, varE, andE, orE, notE, ifE, tupE, lstE, slE, optE, callE, callF, callKF, methE, isiE, argsE, argsOf, datsOf, resV, newT, newL, shq, shf, opF, cF, addV, mulV, ixV, slV, gtK, ltK, leK, geK, subK, addK, mulK, fdivK, modK, powK, eq_int, ne_int, eq_str, ne_str, intK, absK, isiB, Val.dat, Val.items, flat, flatA, isL, Bool.and_true, Bool.true_and, Bool.false_and, Bool.and_false, if_true, if_false, Bool.false_eq_true, Option.map_some, Option.map_none, Bool.not_true, Bool.not_false, decide_true, decide_false, reduceIte, reduceCtorEq, and_self, true_and, and_true, yes_ap, sizeLine_eq, Nat.reduceLeDiff, e1, e2, e3, h4, h6, Int.reduceLT, Int.reduceEq, hr]
    refine ⟨_, _, rfl, ?_, ?_⟩
    · have : (repS z n).length = n.toNat * z.length := by
        simp [repS, Str.length]
      rw [this, Nat.mul_comm]
      omega
    · refine Nat.le_trans (T_run _ fun c hc => ?_).1 (by decide)
      have hc : c ∈ (List.replicate n.toNat z.cps.toList).flatten := by simpa [repS] using hc
      obtain ⟨l, hl, hc⟩ := List.mem_flatten.mp hc
      rw [(List.mem_replicate.mp hl).2] at hc
      exact hz2 c hc
  by_cases h9 : w = 8
  · obtain ⟨z, p2, e2, hz⟩ := pk [.str "", .str " a (", .str "@!", .str "1a", .str "#"] p1 (by decide) (by decide) (by decide)
    have ha : (Str.ofString "#").length + z.length ≤ 16777216 := by
      rw [show (Str.ofString "#").length = 1 from rfl]
      omega
    subst h9
    simp only [fillSl, List.length_cons, List.length_nil, List.replicate, List.cons_append, List.nil_append, List.getElem?_cons_zero, List.getElem?_cons_succ, List.set_cons_zero, List.set_cons_succ, Nat.reduceAdd, Nat.reduceSub, Nat.reduceLT, seqS, nxS, setS, dropS, retS, iteS, retV, asg, potS, potDivS, appS, extS, unpS, parS, asgPs, asgP, asgD, asgDs, calm, binE, unE, potE, constE, varE, andE, orE, notE, ifE, tupE, lstE, slE, optE, callE, callF, callKF, methE, isiE, argsE, argsOf, datsOf, resV, newT, newL, shq, shf, opF, cF, addV, mulV, ixV, slV, gtK, ltK, leK, geK, subK, addK, mulK, fdivK, modK, powK, eq_int, ne_int, eq_str, ne_str, intK, absK, isiB, Val.dat, Val.items, flat, flatA, isL, Bool.and_true, Bool.true_and, Bool.false_and, Bool.and_false, if_true, if_false, Bool.false_eq_true, Option.map_some, Option.map_none, Bool.not_true, Bool.not_false, decide_true, decide_false, reduceIte, reduceCtorEq, and_self, true_and, and_true, yes_ap, sizeLine_eq, Nat.reduceLeDiff, e1, e2, h4, h6, Int.reduceLT, Int.reduceEq, ha]
    refine ⟨_, _, rfl, ?_, ?_⟩
    · rw [Str.length_append, show (Str.ofString "#").length = 1 from rfl]
      omega
    · rw [Str.cps_append, Array.toList_append]
      have a := T_app false (Str.ofString "#").cps.toList z.cps.toList
      rw [show T false (Str.ofString "#").cps.toList = 0 from rfl] at a
      omega
  · obtain ⟨z, p2, e2, hz1, hz⟩ := pk [.str " ", .str "\n", .str "  ", .str "\n\n", .str " ", .str "A", .str "@", .str "_", .str "/", .str " (a) ", .str "<-", .str ";", .str "\"", .str ">", .str "{"] p1 (by decide) (by decide) (by decide)
    simp only [fillSl, List.length_cons, List.length_nil, List.replicate, List.cons_append, List.nil_append, List.getElem?_cons_zero, List.getElem?_cons_succ, List.set_cons_zero, List.set_cons_succ, Nat.reduceAdd, Nat.reduceSub, Nat.reduceLT, seqS, nxS, setS, dropS, retS, iteS, retV, asg, potS, potDivS, appS, extS, unpS, parS, asgPs, asgP, asgD, asgDs, calm, binE, unE, potE, constE, varE, andE, orE, notE, ifE, tupE, lstE, slE, optE, callE, callF, callKF, methE, isiE, argsE, argsOf, datsOf, resV, newT, newL, shq, shf, opF, cF, addV, mulV, ixV, slV, gtK, ltK, leK, geK, subK, addK, mulK, fdivK, modK, powK, eq_int, ne_int, eq_str, ne_str, intK, absK, isiB, Val.dat, Val.items, flat, flatA, isL, Bool.and_true, Bool.true_and, Bool.false_and, Bool.and_false, if_true, if_false, Bool.false_eq_true, Option.map_some, Option.map_none, Bool.not_true, Bool.not_false, decide_true, decide_false, reduceIte, reduceCtorEq, and_self, true_and, and_true, yes_ap, sizeLine_eq, Nat.reduceLeDiff, e1, e2, h4, h6, h7, h8, h9]
    exact ⟨_, _, rfl, by omega, hz⟩
end K11
namespace K11
open PySem PySem.Spec PyProof.Rows L2 Pu
theorem in_one (c : Nat) (w : Str) : inV' (.sh (.str ⟨#[c]⟩)) (.sh (.str w)) = some (.sh (.bool (decide (c ∈ w.cps.toList)))) := by
  unfold inV' inD
  simp only [Val.dat, StrLaws.found_one, Option.map_some]
theorem nin_one (c : Nat) (w : Str) : ninV (.sh (.str ⟨#[c]⟩)) (.sh (.str w)) = some (.sh (.bool (!decide (c ∈ w.cps.toList)))) := by
  unfold ninV inD
  simp only [Val.dat, StrLaws.found_one, Option.map_some]
theorem mem_let (c : Nat) : decide (c ∈ (Str.ofString "abcdefghijklmnopqrstuvwxyz").cps.toList) = lt c := by
  rw [show (Str.ofString "abcdefghijklmnopqrstuvwxyz").cps.toList = [97, 98, 99, 100, 101, 102, 103, 104, 105, 106, 107, 108, 109, 110, 111, 112, 113, 114, 115, 116, 117, 118, 119, 120, 121, 122] from rfl]
  unfold lt
  rw [Bool.eq_iff_iff, Bool.and_eq_true, decide_eq_true_eq, decide_eq_true_eq, decide_eq_true_eq]
  simp only [List.mem_cons, List.not_mem_nil, or_false]
  omega
theorem mem_fig (c : Nat) : decide (c ∈ (Str.ofString "0123456789").cps.toList) = fg c := by
  rw [show (Str.ofString "0123456789").cps.toList = [48, 49, 50, 51, 52, 53, 54, 55, 56, 57] from rfl]
  unfold fg
  rw [Bool.eq_iff_iff, Bool.and_eq_true, decide_eq_true_eq, decide_eq_true_eq, decide_eq_true_eq]
  simp only [List.mem_cons, List.not_mem_nil, or_false]
  omega
theorem mem_run (c : Nat) : decide (c ∈ (Str.ofString "abcdefghijklmnopqrstuvwxyz0123456789").cps.toList) = rn c := by
  rw [show (Str.ofString "abcdefghijklmnopqrstuvwxyz0123456789").cps.toList = (Str.ofString "abcdefghijklmnopqrstuvwxyz").cps.toList ++ (Str.ofString "0123456789").cps.toList from rfl]
  unfold rn
  rw [← mem_let, ← mem_fig, Bool.eq_iff_iff, Bool.or_eq_true, decide_eq_true_eq, decide_eq_true_eq, decide_eq_true_eq, List.mem_append]
theorem mem_sg (c : Nat) : decide (c ∈ (Str.ofString "(),.=<+-*[]").cps.toList) = sg c := by
  rw [show (Str.ofString "(),.=<+-*[]").cps.toList = [40, 41, 44, 46, 61, 60, 43, 45, 42, 91, 93] from rfl]
  unfold sg
  rw [Bool.eq_iff_iff, decide_eq_true_eq, List.contains_iff_mem]
theorem one_eq (c d : Nat) : decide ((⟨#[c]⟩ : Str) = ⟨#[d]⟩) = decide (c = d) := by
  rw [Bool.eq_iff_iff, decide_eq_true_eq, decide_eq_true_eq]
  exact ⟨fun h => by cases h; rfl, fun h => by rw [h]⟩
theorem nl_eq (c : Nat) : decide ((⟨#[c]⟩ : Str) = Str.ofString "\n") = decide (c = 10) := one_eq c 10
theorem sp_eq (c : Nat) : decide ((⟨#[c]⟩ : Str) = Str.ofString " ") = decide (c = 32) := one_eq c 32
theorem ha_eq (c : Nat) : decide ((⟨#[c]⟩ : Str) = Str.ofString "#") = decide (c = 35) := one_eq c 35
/-! runs -/
def runLen (L : List Nat) : Nat := (L.takeWhile rn).length
theorem runLen_cons (c : Nat) (t : List Nat) : runLen (c :: t) = if rn c = true then runLen t + 1 else 0 := by
  unfold runLen
  rw [List.takeWhile_cons]
  split <;> simp
theorem take_run (L : List Nat) : L.take (runLen L) = L.takeWhile rn := by
  induction L with
  | nil => rfl
  | cons c t ih =>
    rw [runLen_cons, List.takeWhile_cons]
    split
    · rw [List.take_succ_cons, ih]
    · rfl
theorem runLen_le (L : List Nat) : runLen L ≤ L.length := by
  induction L with
  | nil => exact Nat.le_refl _
  | cons c t ih => rw [runLen_cons, List.length_cons]; split <;> omega
theorem drop_cons {L : List Nat} {k : Nat} (h : k < L.length) : L.drop k = L[k] :: L.drop (k + 1) := List.drop_eq_getElem_cons h
theorem at_add {L : List Nat} {k n : Nat} (h : k + n < L.length) : atI L ((k : Int) + (n : Int)) = some L[k + n] := by
  rw [show ((k : Int) + (n : Int)) = ((k + n : Nat) : Int) from (Int.natCast_add k n).symm]
  exact atI_nat (List.getElem?_eq_getElem h)
theorem at_nat {L : List Nat} {k : Nat} (h : k < L.length) : atI L (k : Int) = some L[k] := atI_nat (List.getElem?_eq_getElem h)
theorem slen (z : Str) : z.length = z.cps.toList.length := by simp [Str.length]
theorem run_loop {z : Str} (hz : z.length ≤ 16777216) (k : Nat) (p : Pot) : ∀ (m n : Nat), m = z.cps.toList.length - (k + n) → k + n ≤ z.cps.toList.length →
    whileS (andE (binE (opF ltK) (binE addV (varE 1) (varE 2)) (callE lenV [(varE 0)])) (orE (binE inV' (binE ixV (varE 0) (binE addV (varE 1) (varE 2))) (constE (.str "abcdefghijklmnopqrstuvwxyz"))) (binE inV' (binE ixV (varE 0) (binE addV (varE 1) (varE 2))) (constE (.str "0123456789"))))) (setS 2 (binE addV (varE 2) (constE (.int 1)))) [.sh (.str z), .sh (.int k), .sh (.int n)] p = some (.nx [.sh (.str z), .sh (.int k), .sh (.int (n + runLen (z.cps.toList.drop (k + n)) : Nat))] p)
  | 0, n, hm, hn => by
    have e : k + n = z.cps.toList.length := by omega
    have hc : ¬ ((k : Int) + (n : Int) < (z.length : Int)) := by rw [slen]; omega
    rw [whileS_eq]
    simp only [fillSl, List.length_cons, List.length_nil, List.replicate, List.cons_append, List.nil_append, List.getElem?_cons_zero, List.getElem?_cons_succ, List.set_cons_zero, List.set_cons_succ, Nat.reduceAdd, Nat.reduceSub, Nat.reduceLT, seqS, nxS, setS, dropS, retS, iteS, retV, asg, potS, potDivS, appS, extS, unpS, parS, asgPs, asgP, asgD, asgDs, calm, binE, unE, potE, constE, varE, andE, orE, notE, ifE, tupE, lstE, slE, optE, callE, callF, callKF, methE, isiE, argsE, argsOf, datsOf, resV, newT, newL, shq, shf, opF, cF, addV, mulV, ixV, slV, gtK, ltK, leK, geK, subK, addK, mulK, fdivK, modK, powK, eq_int, ne_int, eq_str, ne_str, intK, absK, isiB, Val.dat, Val.items, flat, flatA, isL, Bool.and_true, Bool.true_and, Bool.false_and, Bool.and_false, if_true, if_false, Bool.false_eq_true, Option.map_some, Option.map_none, Bool.not_true, Bool.not_false, decide_true, decide_false, reduceIte, reduceCtorEq, and_self, true_and, and_true, yes_ap, sizeLine_eq, Nat.reduceLeDiff, lenV, hz, hc]
    rw [e, List.drop_length]
    rfl
  | m + 1, n, hm, hn => by
    have hl : k + n < z.cps.toList.length := by omega
    have hc : ((k : Int) + (n : Int) < (z.length : Int)) := by rw [slen]; omega
    rw [whileS_eq, drop_cons hl, runLen_cons]
    have ha := at_add hl
    generalize z.cps.toList[k + n] = c at ha ⊢
    have ih := run_loop hz k p m (n + 1) (by omega) (by omega)
    have e1 : ((n : Int) + 1) = ((n + 1 : Nat) : Int) := rfl
    cases h1 : lt c with
    | true =>
      simp only [fillSl, List.length_cons, List.length_nil, List.replicate, List.cons_append, List.nil_append, List.getElem?_cons_zero, List.getElem?_cons_succ, List.set_cons_zero, List.set_cons_succ, Nat.reduceAdd, Nat.reduceSub, Nat.reduceLT, seqS, nxS, setS, dropS, retS, iteS, retV, asg, potS, potDivS, appS, extS, unpS, parS, asgPs, asgP, asgD, asgDs, calm, binE, unE, potE, constE, varE, andE, orE, notE, ifE, tupE, lstE, slE, optE, callE, callF, callKF, methE, isiE, argsE, argsOf, datsOf, resV, newT, newL, shq, shf, opF, cF, addV, mulV, ixV, slV, gtK, ltK, leK, geK, subK, addK, mulK, fdivK, modK, powK, eq_int, ne_int, eq_str, ne_str, intK, absK, isiB, Val.dat, Val.items, flat, flatA, isL, Bool.and_true, Bool.true_and, Bool.false_and, Bool.and_false, if_true, if_false, Bool.false_eq_true, Option.map_some, Option.map_none, Bool.not_true, Bool.not_false, decide_true, decide_false, reduceIte, reduceCtorEq, and_self, true_and, and_true, yes_ap, sizeLine_eq, Nat.reduceLeDiff, lenV, hz, hc, ha, in_one, mem_let, h1, e1, ih, rn, Bool.true_or]
      rw [show n + 1 + runLen (z.cps.toList.drop (k + (n + 1))) = n + (runLen (z.cps.toList.drop (k + n + 1)) + 1) by rw [Nat.add_assoc k n 1]; omega]
    | false =>
      cases h2 : fg c with
      | true =>
        simp only [fillSl, List.length_cons, List.length_nil, List.replicate, List.cons_append, List.nil_append, List.getElem?_cons_zero, List.getElem?_cons_succ, List.set_cons_zero, List.set_cons_succ, Nat.reduceAdd, Nat.reduceSub, Nat.reduceLT, seqS, nxS, setS, dropS, retS, iteS, retV, asg, potS, potDivS, appS, extS, unpS, parS, asgPs, asgP, asgD, asgDs, calm, binE, unE, potE, constE, varE, andE, orE, notE, ifE, tupE, lstE, slE, optE, callE, callF, callKF, methE, isiE, argsE, argsOf, datsOf, resV, newT, newL, shq, shf, opF, cF, addV, mulV, ixV, slV, gtK, ltK, leK, geK, subK, addK, mulK, fdivK, modK, powK, eq_int, ne_int, eq_str, ne_str, intK, absK, isiB, Val.dat, Val.items, flat, flatA, isL, Bool.and_true, Bool.true_and, Bool.false_and, Bool.and_false, if_true, if_false, Bool.false_eq_true, Option.map_some, Option.map_none, Bool.not_true, Bool.not_false, decide_true, decide_false, reduceIte, reduceCtorEq, and_self, true_and, and_true, yes_ap, sizeLine_eq, Nat.reduceLeDiff, lenV, hz, hc, ha, in_one, mem_let, mem_fig, h1, h2, e1, ih, rn, Bool.or_true]
        rw [show n + 1 + runLen (z.cps.toList.drop (k + (n + 1))) = n + (runLen (z.cps.toList.drop (k + n + 1)) + 1) by rw [Nat.add_assoc k n 1]; omega]
      | false =>
        simp only [fillSl, List.length_cons, List.length_nil, List.replicate, List.cons_append, List.nil_append, List.getElem?_cons_zero, List.getElem?_cons_succ, List.set_cons_zero, List.set_cons_succ, Nat.reduceAdd, Nat.reduceSub, Nat.reduceLT, seqS, nxS, setS, dropS, retS, iteS, retV, asg, potS, potDivS, appS, extS, unpS, parS, asgPs, asgP, asgD, asgDs, calm, binE, unE, potE, constE, varE, andE, orE, notE, ifE, tupE, lstE, slE, optE, callE, callF, callKF, methE, isiE, argsE, argsOf, datsOf, resV, newT, newL, shq, shf, opF, cF, addV, mulV, ixV, slV, gtK, ltK, leK, geK, subK, addK, mulK, fdivK, modK, powK, eq_int, ne_int, eq_str, ne_str, intK, absK, isiB, Val.dat, Val.items, flat, flatA, isL, Bool.and_true, Bool.true_and, Bool.false_and, Bool.and_false, if_true, if_false, Bool.false_eq_true, Option.map_some, Option.map_none, Bool.not_true, Bool.not_false, decide_true, decide_false, reduceIte, reduceCtorEq, and_self, true_and, and_true, yes_ap, sizeLine_eq, Nat.reduceLeDiff, lenV, hz, hc, ha, in_one, mem_let, mem_fig, h1, h2, rn, Bool.or_false]
        rfl
theorem run_size {z : Str} (hz : z.length ≤ 16777216) {k : Nat} (hk : k ≤ z.cps.toList.length) (p : Pot) : F_run_size [.sh (.str z), .sh (.int k)] p = some (.sh (.int (runLen (z.cps.toList.drop k))), p) := by
  have h := run_loop hz k p (z.cps.toList.length - k) 0 (by simp) (by simpa using hk)
  unfold F_run_size B_run_size defF
  have e0 : ((0 : Nat) : Int) = 0 := rfl
  rw [e0] at h
  simp only [fillSl, List.length_cons, List.length_nil, List.replicate, List.cons_append, List.nil_append, List.getElem?_cons_zero, List.getElem?_cons_succ, List.set_cons_zero, List.set_cons_succ, Nat.reduceAdd, Nat.reduceSub, Nat.reduceLT, seqS, nxS, setS, dropS, retS, iteS, retV, asg, potS, potDivS, appS, extS, unpS, parS, asgPs, asgP, asgD, asgDs, calm, binE, unE, potE, constE, varE, andE, orE, notE, ifE, tupE, lstE, slE, optE, callE, callF, callKF, methE, isiE, argsE, argsOf, datsOf, resV, newT, newL, shq, shf, opF, cF, addV, mulV, ixV, slV, gtK, ltK, leK, geK, subK, addK, mulK, fdivK, modK, powK, eq_int, ne_int, eq_str, ne_str, intK, absK, isiB, Val.dat, Val.items, flat, flatA, isL, Bool.and_true, Bool.true_and, Bool.false_and, Bool.and_false, if_true, if_false, Bool.false_eq_true, Option.map_some, Option.map_none, Bool.not_true, Bool.not_false, decide_true, decide_false, reduceIte, reduceCtorEq, and_self, true_and, and_true, yes_ap, sizeLine_eq, Nat.reduceLeDiff, h]
  rw [Nat.zero_add, Nat.add_zero]
end K11
namespace K11
open PySem PySem.Spec PyProof.Rows L2 Pu
theorem cut_at {z : Str} {k n : Nat} (h : k + n ≤ z.cps.toList.length) : cutS z (some (k : Int)) (some ((k : Int) + (n : Int))) = ⟨((z.cps.toList.drop k).take n).toArray⟩ := by
  unfold cutS
  rw [← Int.natCast_add, HT.sIx_nat, HT.sIx_nat, slen, Nat.min_eq_left h, Nat.min_eq_left (by omega), Nat.add_sub_cancel_left]
/-- how long the word at the front is, 0 for none -/
def tok : List Nat → Nat
  | [] => 0
  | c :: t => if sg c = true then 1 else if rn c = false then 0 else if lt c = true then (if runLen (c :: t) ≤ 12 then runLen (c :: t) else 0)
      else if runLen (c :: t) ≤ 4096 ∧ ((c :: t).takeWhile rn).all fg = true then runLen (c :: t) else 0
theorem tok_cons (c : Nat) (t : List Nat) : tok (c :: t) = if sg c = true then 1 else if rn c = false then 0 else if lt c = true then (if runLen (c :: t) ≤ 12 then runLen (c :: t) else 0)
      else if runLen (c :: t) ≤ 4096 ∧ ((c :: t).takeWhile rn).all fg = true then runLen (c :: t) else 0 := rfl
theorem tok_le (L : List Nat) : tok L ≤ L.length := by
  cases L with
  | nil => exact Nat.le_refl _
  | cons c t =>
    have h := runLen_le (c :: t)
    have h2 : 1 ≤ (c :: t).length := by simp
    rw [tok_cons]
    split
    · exact h2
    split
    · exact Nat.zero_le _
    split
    · split
      · exact h
      · exact Nat.zero_le _
    split
    · exact h
    · exact Nat.zero_le _
theorem figs_comp (sl : Sl) : ∀ (cs : List Nat) (p : Pot), compL (.nm 1) yesE (binE inV' (varE 1) (constE (.str "0123456789"))) (sl.set 1 .un) (cs.map fun c => .str ⟨#[c]⟩) p = (if 1 < sl.length then some (cs.map fun c => .bool (fg c), p) else if cs = [] then some ([], p) else none)
  | [], p => by unfold compL; simp
  | c :: cs, p => by
    have ih := figs_comp sl cs p
    by_cases h : 1 < sl.length
    · rw [if_pos h] at ih ⊢
      unfold compL
      have h' : 1 < (sl.set 1 Slot.un).length := by rw [List.length_set]; exact h
      have h2 : ((sl.set 1 Slot.un).set 1 (Slot.sh (PyData.str ⟨#[c]⟩)))[1]? = some (Slot.sh (PyData.str ⟨#[c]⟩)) := List.getElem?_set_self h'
      simp only [asgD, h', if_true, yes_ap, binE, varE, h2, constE, in_one, mem_fig, Val.dat, List.map_cons, List.map_map] at ih ⊢
      rw [ih]
    · rw [if_neg h]
      unfold compL
      have h' : ¬ 1 < (sl.set 1 Slot.un).length := by rw [List.length_set]; exact h
      simp only [List.map_cons, asgD, h', if_false]
      rfl
theorem all_map {cs : List Nat} : (cs.map fg).all id = cs.all fg := by
  rw [List.all_map]; rfl
theorem is_run_word {v : Str} {c : Nat} {t : List Nat} (h : v.cps.toList = c :: t) (hz : v.length ≤ 16777216) (p : Pot) : F_is_run_word [.sh (.str v)] p =
    some (.sh (.bool (if lt c = true then decide (v.length ≤ 12) else decide (v.length ≤ 4096) && (c :: t).all fg)), p) := by
  have ha : atI v.cps.toList 0 = some c := by rw [h]; exact atI_nat (j := 0) rfl
  unfold F_is_run_word B_is_run_word defF
  cases h1 : lt c with
  | true =>
    have e : decide ((v.length : Int) ≤ 12) = decide (v.length ≤ 12) := by
      rw [Bool.eq_iff_iff, decide_eq_true_eq, decide_eq_true_eq]; omega
    simp only [fillSl, List.length_cons, List.length_nil, List.replicate, List.cons_append, List.nil_append, List.getElem?_cons_zero, List.getElem?_cons_succ, List.set_cons_zero, List.set_cons_succ, Nat.reduceAdd, Nat.reduceSub, Nat.reduceLT, seqS, nxS, setS, dropS, retS, iteS, retV, asg, potS, potDivS, appS, extS, unpS, parS, asgPs, asgP, asgD, asgDs, calm, binE, unE, potE, constE, varE, andE, orE, notE, ifE, tupE, lstE, slE, optE, callE, callF, callKF, methE, isiE, argsE, argsOf, datsOf, resV, newT, newL, shq, shf, opF, cF, addV, mulV, ixV, slV, gtK, ltK, leK, geK, subK, addK, mulK, fdivK, modK, powK, eq_int, ne_int, eq_str, ne_str, intK, absK, isiB, Val.dat, Val.items, flat, flatA, isL, Bool.and_true, Bool.true_and, Bool.false_and, Bool.and_false, if_true, if_false, Bool.false_eq_true, Option.map_some, Option.map_none, Bool.not_true, Bool.not_false, decide_true, decide_false, reduceIte, reduceCtorEq, and_self, true_and, and_true, yes_ap, sizeLine_eq, Nat.reduceLeDiff, lenV, hz, ha, in_one, mem_let, h1, e]
  | false =>
    have e : decide ((v.length : Int) ≤ 4096) = decide (v.length ≤ 4096) := by
      rw [Bool.eq_iff_iff, decide_eq_true_eq, decide_eq_true_eq]; omega
    have hc := figs_comp [.sh (.str v), .un] v.cps.toList p
    have lz : ((v.cps.toList).map fun c => PyData.bool (fg c)).length ≤ 16777216 := by rw [List.length_map, ← slen]; exact hz
    have bz : boolsOf ((v.cps.toList).map fun c => PyData.bool (fg c)) = some (v.cps.toList.map fg) := by
      rw [← boolsOf_map (v.cps.toList.map fg), List.map_map]; rfl
    by_cases h2 : v.length ≤ 4096
    · simp only [fillSl, List.length_cons, List.length_nil, List.replicate, List.cons_append, List.nil_append, List.getElem?_cons_zero, List.getElem?_cons_succ, List.set_cons_zero, List.set_cons_succ, Nat.reduceAdd, Nat.reduceSub, Nat.reduceLT, seqS, nxS, setS, dropS, retS, iteS, retV, asg, potS, potDivS, appS, extS, unpS, parS, asgPs, asgP, asgD, asgDs, calm, binE, unE, potE, constE, varE, andE, orE, notE, ifE, tupE, lstE, slE, optE, callE, callF, callKF, methE, isiE, argsE, argsOf, datsOf, resV, newT, newL, shq, shf, opF, cF, addV, mulV, ixV, slV, gtK, ltK, leK, geK, subK, addK, mulK, fdivK, modK, powK, eq_int, ne_int, eq_str, ne_str, intK, absK, isiB, Val.dat, Val.items, flat, flatA, isL, Bool.and_true, Bool.true_and, Bool.false_and, Bool.and_false, if_true, if_false, Bool.false_eq_true, Option.map_some, Option.map_none, Bool.not_true, Bool.not_false, decide_true, decide_false, reduceIte, reduceCtorEq, and_self, true_and, and_true, yes_ap, sizeLine_eq, Nat.reduceLeDiff, lenV, hz, ha, in_one, mem_let, h1, e, h2, lcE, itJ, seqD, charsD, wipeSl] at hc ⊢
      simp only [hc, lz, fillSl, List.length_cons, List.length_nil, List.replicate, List.cons_append, List.nil_append, List.getElem?_cons_zero, List.getElem?_cons_succ, List.set_cons_zero, List.set_cons_succ, Nat.reduceAdd, Nat.reduceSub, Nat.reduceLT, seqS, nxS, setS, dropS, retS, iteS, retV, asg, potS, potDivS, appS, extS, unpS, parS, asgPs, asgP, asgD, asgDs, calm, binE, unE, potE, constE, varE, andE, orE, notE, ifE, tupE, lstE, slE, optE, callE, callF, callKF, methE, isiE, argsE, argsOf, datsOf, resV, newT, newL, shq, shf, opF, cF, addV, mulV, ixV, slV, gtK, ltK, leK, geK, subK, addK, mulK, fdivK, modK, powK, eq_int, ne_int, eq_str, ne_str, intK, absK, isiB, Val.dat, Val.items, flat, flatA, isL, Bool.and_true, Bool.true_and, Bool.false_and, Bool.and_false, if_true, if_false, Bool.false_eq_true, Option.map_some, Option.map_none, Bool.not_true, Bool.not_false, decide_true, decide_false, reduceIte, reduceCtorEq, and_self, true_and, and_true, yes_ap, sizeLine_eq, Nat.reduceLeDiff, allK, bz, all_map]
      rw [h]
    · simp only [fillSl, List.length_cons, List.length_nil, List.replicate, List.cons_append, List.nil_append, List.getElem?_cons_zero, List.getElem?_cons_succ, List.set_cons_zero, List.set_cons_succ, Nat.reduceAdd, Nat.reduceSub, Nat.reduceLT, seqS, nxS, setS, dropS, retS, iteS, retV, asg, potS, potDivS, appS, extS, unpS, parS, asgPs, asgP, asgD, asgDs, calm, binE, unE, potE, constE, varE, andE, orE, notE, ifE, tupE, lstE, slE, optE, callE, callF, callKF, methE, isiE, argsE, argsOf, datsOf, resV, newT, newL, shq, shf, opF, cF, addV, mulV, ixV, slV, gtK, ltK, leK, geK, subK, addK, mulK, fdivK, modK, powK, eq_int, ne_int, eq_str, ne_str, intK, absK, isiB, Val.dat, Val.items, flat, flatA, isL, Bool.and_true, Bool.true_and, Bool.false_and, Bool.and_false, if_true, if_false, Bool.false_eq_true, Option.map_some, Option.map_none, Bool.not_true, Bool.not_false, decide_true, decide_false, reduceIte, reduceCtorEq, and_self, true_and, and_true, yes_ap, sizeLine_eq, Nat.reduceLeDiff, lenV, hz, ha, in_one, mem_let, h1, e, h2]
theorem text_word_size {z : Str} (hz : z.length ≤ 16777216) {k : Nat} (hk : k < z.cps.toList.length) (p : Pot) : F_text_word_size [.sh (.str z), .sh (.int k)] p = some (.sh (.int (tok (z.cps.toList.drop k))), p) := by
  have ha := at_nat hk
  have hr := run_size hz (Nat.le_of_lt hk) p
  have hd := drop_cons hk
  have hl := runLen_le (z.cps.toList.drop k)
  have hM : (z.cps.toList.drop k).length ≤ z.length := by rw [List.length_drop, ← slen]; omega
  have hcut := cut_at (z := z) (k := k) (n := runLen (z.cps.toList.drop k)) (by rw [List.length_drop] at hl; omega)
  have htk := take_run (z.cps.toList.drop k)
  rw [htk] at hcut
  generalize z.cps.toList[k] = c at ha hd
  generalize z.cps.toList.drop (k + 1) = t at hd
  generalize z.cps.toList.drop k = M at hr hd hl hcut htk hM ⊢
  subst hd
  rw [tok_cons]
  unfold F_text_word_size B_text_word_size defF
  cases h1 : sg c with
  | true =>
    simp only [fillSl, List.length_cons, List.length_nil, List.replicate, List.cons_append, List.nil_append, List.getElem?_cons_zero, List.getElem?_cons_succ, List.set_cons_zero, List.set_cons_succ, Nat.reduceAdd, Nat.reduceSub, Nat.reduceLT, seqS, nxS, setS, dropS, retS, iteS, retV, asg, potS, potDivS, appS, extS, unpS, parS, asgPs, asgP, asgD, asgDs, calm, binE, unE, potE, constE, varE, andE, orE, notE, ifE, tupE, lstE, slE, optE, callE, callF, callKF, methE, isiE, argsE, argsOf, datsOf, resV, newT, newL, shq, shf, opF, cF, addV, mulV, ixV, slV, gtK, ltK, leK, geK, subK, addK, mulK, fdivK, modK, powK, eq_int, ne_int, eq_str, ne_str, intK, absK, isiB, Val.dat, Val.items, flat, flatA, isL, Bool.and_true, Bool.true_and, Bool.false_and, Bool.and_false, if_true, if_false, Bool.false_eq_true, Option.map_some, Option.map_none, Bool.not_true, Bool.not_false, decide_true, decide_false, reduceIte, reduceCtorEq, and_self, true_and, and_true, yes_ap, sizeLine_eq, Nat.reduceLeDiff, hz, ha, in_one, mem_sg, h1]
    rfl
  | false =>
    cases h2 : rn c with
    | false =>
      have e0 : runLen (c :: t) = 0 := by rw [runLen_cons, h2]; rfl
      rw [e0] at hr
      have hn : ¬ ((0 : Int) < ((0 : Nat) : Int)) := by decide
      simp only [fillSl, List.length_cons, List.length_nil, List.replicate, List.cons_append, List.nil_append, List.getElem?_cons_zero, List.getElem?_cons_succ, List.set_cons_zero, List.set_cons_succ, Nat.reduceAdd, Nat.reduceSub, Nat.reduceLT, seqS, nxS, setS, dropS, retS, iteS, retV, asg, potS, potDivS, appS, extS, unpS, parS, asgPs, asgP, asgD, asgDs, calm, binE, unE, potE, constE, varE, andE, orE, notE, ifE, tupE, lstE, slE, optE, callE, callF, callKF, methE, isiE, argsE, argsOf, datsOf, resV, newT, newL, shq, shf, opF, cF, addV, mulV, ixV, slV, gtK, ltK, leK, geK, subK, addK, mulK, fdivK, modK, powK, eq_int, ne_int, eq_str, ne_str, intK, absK, isiB, Val.dat, Val.items, flat, flatA, isL, Bool.and_true, Bool.true_and, Bool.false_and, Bool.and_false, if_true, if_false, Bool.false_eq_true, Option.map_some, Option.map_none, Bool.not_true, Bool.not_false, decide_true, decide_false, reduceIte, reduceCtorEq, and_self, true_and, and_true, yes_ap, sizeLine_eq, Nat.reduceLeDiff, hz, ha, in_one, mem_sg, h1, hr, hn]
      rfl
    | true =>
      have e0 : 0 < runLen (c :: t) := by rw [runLen_cons, h2]; simp
      have hn : (0 : Int) < (runLen (c :: t) : Int) := by omega
      have hv : (⟨((c :: t).takeWhile rn).toArray⟩ : Str).cps.toList = c :: t.takeWhile rn := by
        show ((c :: t).takeWhile rn) = _
        rw [List.takeWhile_cons, h2]; rfl
      have hvl : (⟨((c :: t).takeWhile rn).toArray⟩ : Str).length = runLen (c :: t) := by rw [slen]; rfl
      have hm : z.cps.toList.length = z.length := (slen z).symm
      have hw := is_run_word hv (by rw [hvl]; omega) p
      rw [hvl] at hw
      simp only [fillSl, List.length_cons, List.length_nil, List.replicate, List.cons_append, List.nil_append, List.getElem?_cons_zero, List.getElem?_cons_succ, List.set_cons_zero, List.set_cons_succ, Nat.reduceAdd, Nat.reduceSub, Nat.reduceLT, seqS, nxS, setS, dropS, retS, iteS, retV, asg, potS, potDivS, appS, extS, unpS, parS, asgPs, asgP, asgD, asgDs, calm, binE, unE, potE, constE, varE, andE, orE, notE, ifE, tupE, lstE, slE, optE, callE, callF, callKF, methE, isiE, argsE, argsOf, datsOf, resV, newT, newL, shq, shf, opF, cF, addV, mulV, ixV, slV, gtK, ltK, leK, geK, subK, addK, mulK, fdivK, modK, powK, eq_int, ne_int, eq_str, ne_str, intK, absK, isiB, Val.dat, Val.items, flat, flatA, isL, Bool.and_true, Bool.true_and, Bool.false_and, Bool.and_false, if_true, if_false, Bool.false_eq_true, Option.map_some, Option.map_none, Bool.not_true, Bool.not_false, decide_true, decide_false, reduceIte, reduceCtorEq, and_self, true_and, and_true, yes_ap, sizeLine_eq, Nat.reduceLeDiff, hz, ha, in_one, mem_sg, h1, hr, hn, hcut, hw]
      have hall : (c :: t.takeWhile rn).all fg = ((c :: t).takeWhile rn).all fg := by rw [List.takeWhile_cons, h2]; rfl
      rw [hall]
      generalize runLen (c :: t) = n
      cases h3 : lt c with
      | true =>
        by_cases h4 : n ≤ 12
        · simp only [h4, fillSl, List.length_cons, List.length_nil, List.replicate, List.cons_append, List.nil_append, List.getElem?_cons_zero, List.getElem?_cons_succ, List.set_cons_zero, List.set_cons_succ, Nat.reduceAdd, Nat.reduceSub, Nat.reduceLT, seqS, nxS, setS, dropS, retS, iteS, retV, asg, potS, potDivS, appS, extS, unpS, parS, asgPs, asgP, asgD, asgDs, calm, binE, unE, potE, constE, varE, andE, orE, notE, ifE, tupE, lstE, slE, optE, callE, callF, callKF, methE, isiE, argsE, argsOf, datsOf, resV, newT, newL, shq, shf, opF, cF, addV, mulV, ixV, slV, gtK, ltK, leK, geK, subK, addK, mulK, fdivK, modK, powK, eq_int, ne_int, eq_str, ne_str, intK, absK, isiB, Val.dat, Val.items, flat, flatA, isL, Bool.and_true, Bool.true_and, Bool.false_and, Bool.and_false, if_true, if_false, Bool.false_eq_true, Option.map_some, Option.map_none, Bool.not_true, Bool.not_false, decide_true, decide_false, reduceIte, reduceCtorEq, and_self, true_and, and_true, yes_ap, sizeLine_eq, Nat.reduceLeDiff]
        · simp only [h4, fillSl, List.length_cons, List.length_nil, List.replicate, List.cons_append, List.nil_append, List.getElem?_cons_zero, List.getElem?_cons_succ, List.set_cons_zero, List.set_cons_succ, Nat.reduceAdd, Nat.reduceSub, Nat.reduceLT, seqS, nxS, setS, dropS, retS, iteS, retV, asg, potS, potDivS, appS, extS, unpS, parS, asgPs, asgP, asgD, asgDs, calm, binE, unE, potE, constE, varE, andE, orE, notE, ifE, tupE, lstE, slE, optE, callE, callF, callKF, methE, isiE, argsE, argsOf, datsOf, resV, newT, newL, shq, shf, opF, cF, addV, mulV, ixV, slV, gtK, ltK, leK, geK, subK, addK, mulK, fdivK, modK, powK, eq_int, ne_int, eq_str, ne_str, intK, absK, isiB, Val.dat, Val.items, flat, flatA, isL, Bool.and_true, Bool.true_and, Bool.false_and, Bool.and_false, if_true, if_false, Bool.false_eq_true, Option.map_some, Option.map_none, Bool.not_true, Bool.not_false, decide_true, decide_false, reduceIte, reduceCtorEq, and_self, true_and, and_true, yes_ap, sizeLine_eq, Nat.reduceLeDiff]
          rfl
      | false =>
        by_cases h4 : n ≤ 4096
        · cases h5 : ((c :: t).takeWhile rn).all fg with
          | true => simp only [h4, fillSl, List.length_cons, List.length_nil, List.replicate, List.cons_append, List.nil_append, List.getElem?_cons_zero, List.getElem?_cons_succ, List.set_cons_zero, List.set_cons_succ, Nat.reduceAdd, Nat.reduceSub, Nat.reduceLT, seqS, nxS, setS, dropS, retS, iteS, retV, asg, potS, potDivS, appS, extS, unpS, parS, asgPs, asgP, asgD, asgDs, calm, binE, unE, potE, constE, varE, andE, orE, notE, ifE, tupE, lstE, slE, optE, callE, callF, callKF, methE, isiE, argsE, argsOf, datsOf, resV, newT, newL, shq, shf, opF, cF, addV, mulV, ixV, slV, gtK, ltK, leK, geK, subK, addK, mulK, fdivK, modK, powK, eq_int, ne_int, eq_str, ne_str, intK, absK, isiB, Val.dat, Val.items, flat, flatA, isL, Bool.and_true, Bool.true_and, Bool.false_and, Bool.and_false, if_true, if_false, Bool.false_eq_true, Option.map_some, Option.map_none, Bool.not_true, Bool.not_false, decide_true, decide_false, reduceIte, reduceCtorEq, and_self, true_and, and_true, yes_ap, sizeLine_eq, Nat.reduceLeDiff]
          | false =>
            simp only [h4, fillSl, List.length_cons, List.length_nil, List.replicate, List.cons_append, List.nil_append, List.getElem?_cons_zero, List.getElem?_cons_succ, List.set_cons_zero, List.set_cons_succ, Nat.reduceAdd, Nat.reduceSub, Nat.reduceLT, seqS, nxS, setS, dropS, retS, iteS, retV, asg, potS, potDivS, appS, extS, unpS, parS, asgPs, asgP, asgD, asgDs, calm, binE, unE, potE, constE, varE, andE, orE, notE, ifE, tupE, lstE, slE, optE, callE, callF, callKF, methE, isiE, argsE, argsOf, datsOf, resV, newT, newL, shq, shf, opF, cF, addV, mulV, ixV, slV, gtK, ltK, leK, geK, subK, addK, mulK, fdivK, modK, powK, eq_int, ne_int, eq_str, ne_str, intK, absK, isiB, Val.dat, Val.items, flat, flatA, isL, Bool.and_true, Bool.true_and, Bool.false_and, Bool.and_false, if_true, if_false, Bool.false_eq_true, Option.map_some, Option.map_none, Bool.not_true, Bool.not_false, decide_true, decide_false, reduceIte, reduceCtorEq, and_self, true_and, and_true, yes_ap, sizeLine_eq, Nat.reduceLeDiff]
            rfl
        · simp only [h4, fillSl, List.length_cons, List.length_nil, List.replicate, List.cons_append, List.nil_append, List.getElem?_cons_zero, List.getElem?_cons_succ, List.set_cons_zero, List.set_cons_succ, Nat.reduceAdd, Nat.reduceSub, Nat.reduceLT, seqS, nxS, setS, dropS, retS, iteS, retV, asg, potS, potDivS, appS, extS, unpS, parS, asgPs, asgP, asgD, asgDs, calm, binE, unE, potE, constE, varE, andE, orE, notE, ifE, tupE, lstE, slE, optE, callE, callF, callKF, methE, isiE, argsE, argsOf, datsOf, resV, newT, newL, shq, shf, opF, cF, addV, mulV, ixV, slV, gtK, ltK, leK, geK, subK, addK, mulK, fdivK, modK, powK, eq_int, ne_int, eq_str, ne_str, intK, absK, isiB, Val.dat, Val.items, flat, flatA, isL, Bool.and_true, Bool.true_and, Bool.false_and, Bool.and_false, if_true, if_false, Bool.false_eq_true, Option.map_some, Option.map_none, Bool.not_true, Bool.not_false, decide_true, decide_false, reduceIte, reduceCtorEq, and_self, true_and, and_true, yes_ap, sizeLine_eq, Nat.reduceLeDiff, false_and]
          rfl
end K11
namespace K11
open PySem PySem.Spec PyProof.Rows L2 Pu
theorem tw_len : ∀ (M : List Nat) (m : Nat), (∀ i, i < m → ∃ c, M[i]? = some c ∧ c ≠ 10) → (M[m]? = none ∨ M[m]? = some 10) → (M.takeWhile (· != 10)).length = m
  | [], 0, _, _ => rfl
  | [], m + 1, h, _ => by obtain ⟨c, e, _⟩ := h 0 (by omega); simp at e
  | c :: t, 0, _, h => by
    rcases h with h | h
    · simp at h
    · have : c = 10 := by simpa using h
      subst this
      rfl
  | c :: t, m + 1, h, h2 => by
    obtain ⟨d, e, n⟩ := h 0 (by omega)
    have : c = d := by simpa using e
    subst this
    have ih := tw_len t m (fun i hi => by simpa using h (i + 1) (by omega)) (by simpa using h2)
    rw [List.takeWhile_cons, if_pos (by simpa using n), List.length_cons, ih]
theorem remark_end {z : Str} (hz : z.length ≤ 16777216) {k : Nat} (hk : k < z.cps.toList.length) (p : Pot) : F_remark_end [.sh (.str z), .sh (.int k)] p = some (.sh (.int ((k + ((z.cps.toList.drop k).takeWhile (· != 10)).length : Nat) : Int)), p) := by
  have hf : fromIndex z.length (k : Int) = k := by
    unfold fromIndex
    rw [if_neg (by omega)]
    omega
  have hs := slen z
  unfold F_remark_end B_remark_end defF
  rw [show (Str.ofString "\n") = (⟨#[10]⟩ : Str) from rfl]
  rcases StrLaws.find3_spec z 10 (k : Int) with ⟨e, h⟩ | ⟨j, e, h1, h2, h3, h4⟩
  · rw [hf] at h
    have hl := tw_len (z.cps.toList.drop k) (z.cps.toList.length - k) (fun i hi => ⟨z.cps.toList[k + i], by rw [List.getElem?_drop, List.getElem?_eq_getElem], fun hc => by
      refine h (k + i) (by omega) (by omega) (StrLaws.getD_of_getElem? ?_)
      rw [List.getElem?_eq_getElem (by omega), hc]⟩) (.inl (by simp))
    simp only [fillSl, List.length_cons, List.length_nil, List.replicate, List.cons_append, List.nil_append, List.getElem?_cons_zero, List.getElem?_cons_succ, List.set_cons_zero, List.set_cons_succ, Nat.reduceAdd, Nat.reduceSub, Nat.reduceLT, seqS, nxS, setS, dropS, retS, iteS, retV, asg, potS, potDivS, appS, extS, unpS, parS, asgPs, asgP, asgD, asgDs, calm, binE, unE, potE, constE, varE, andE, orE, notE, ifE, tupE, lstE, slE, optE, callE, callF, callKF, methE, isiE, argsE, argsOf, datsOf, resV, newT, newL, shq, shf, opF, cF, addV, mulV, ixV, slV, gtK, ltK, leK, geK, subK, addK, mulK, fdivK, modK, powK, eq_int, ne_int, eq_str, ne_str, intK, absK, isiB, Val.dat, Val.items, flat, flatA, isL, Bool.and_true, Bool.true_and, Bool.false_and, Bool.and_false, if_true, if_false, Bool.false_eq_true, Option.map_some, Option.map_none, Bool.not_true, Bool.not_false, decide_true, decide_false, reduceIte, reduceCtorEq, and_self, true_and, and_true, yes_ap, sizeLine_eq, Nat.reduceLeDiff, find3M, e, lenV, hz, hl, Int.reduceLT]
    rw [show k + (z.cps.toList.length - k) = z.length by omega]
  · rw [hf] at h1 h4
    have hl := tw_len (z.cps.toList.drop k) (j - k) (fun i hi => ⟨z.cps.toList[k + i], by rw [List.getElem?_drop, List.getElem?_eq_getElem], fun hc => by
      refine h4 (k + i) (by omega) (by omega) (StrLaws.getD_of_getElem? ?_)
      rw [List.getElem?_eq_getElem (by omega), hc]⟩) (.inr (by
        rw [List.getElem?_drop, show k + (j - k) = j by omega]
        exact StrLaws.getElem?_of_getD h2 h3))
    have hn : ¬ ((j : Int) < 0) := by omega
    simp only [fillSl, List.length_cons, List.length_nil, List.replicate, List.cons_append, List.nil_append, List.getElem?_cons_zero, List.getElem?_cons_succ, List.set_cons_zero, List.set_cons_succ, Nat.reduceAdd, Nat.reduceSub, Nat.reduceLT, seqS, nxS, setS, dropS, retS, iteS, retV, asg, potS, potDivS, appS, extS, unpS, parS, asgPs, asgP, asgD, asgDs, calm, binE, unE, potE, constE, varE, andE, orE, notE, ifE, tupE, lstE, slE, optE, callE, callF, callKF, methE, isiE, argsE, argsOf, datsOf, resV, newT, newL, shq, shf, opF, cF, addV, mulV, ixV, slV, gtK, ltK, leK, geK, subK, addK, mulK, fdivK, modK, powK, eq_int, ne_int, eq_str, ne_str, intK, absK, isiB, Val.dat, Val.items, flat, flatA, isL, Bool.and_true, Bool.true_and, Bool.false_and, Bool.and_false, if_true, if_false, Bool.false_eq_true, Option.map_some, Option.map_none, Bool.not_true, Bool.not_false, decide_true, decide_false, reduceIte, reduceCtorEq, and_self, true_and, and_true, yes_ap, sizeLine_eq, Nat.reduceLeDiff, find3M, e, hl, hn]
    rw [show k + (j - k) = j by omega]
/-- the words of the rest, and where it is wrong -/
def wsp : List Nat → Nat → Nat → List PyData × PyData
  | [], _, _ => ([], .none)
  | c :: t, ln, co => if c = 10 then wsp t (ln + 1) 0 else if c = 32 then wsp t ln (co + 1) else if c = 35 then wsp (t.dropWhile (· != 10)) ln (co + 1 + (t.takeWhile (· != 10)).length)
      else if h : tok (c :: t) = 0 then ([], .tuple [.int ln, .int co])
      else (.tuple [.str ⟨((c :: t).take (tok (c :: t))).toArray⟩, .int ln, .int co] :: (wsp ((c :: t).drop (tok (c :: t))) ln (co + tok (c :: t))).1, (wsp ((c :: t).drop (tok (c :: t))) ln (co + tok (c :: t))).2)
termination_by L => L.length
decreasing_by
  all_goals first
    | (rw [List.length_drop, List.length_cons]; omega)
    | (have := (List.dropWhile_suffix (l := t) (· != 10)).length_le; simp; omega)
    | simp
theorem dropW (M : List Nat) : M.dropWhile (· != 10) = M.drop (M.takeWhile (· != 10)).length := by
  induction M with
  | nil => rfl
  | cons c t ih =>
    rw [List.dropWhile_cons, List.takeWhile_cons]
    split
    · rw [List.length_cons, List.drop_succ_cons, ih]
    · rfl
theorem wsp_nil (ln co : Nat) : wsp [] ln co = ([], .none) := by rw [wsp.eq_def]
theorem wsp_nl (t : List Nat) (ln co : Nat) : wsp (10 :: t) ln co = wsp t (ln + 1) 0 := by rw [wsp.eq_def]; dsimp only; rw [if_pos rfl]
theorem wsp_sp (t : List Nat) (ln co : Nat) : wsp (32 :: t) ln co = wsp t ln (co + 1) := by rw [wsp.eq_def]; dsimp only; rw [if_neg (by decide), if_pos rfl]
theorem wsp_ha (t : List Nat) (ln co : Nat) : wsp (35 :: t) ln co = wsp (t.dropWhile (· != 10)) ln (co + 1 + (t.takeWhile (· != 10)).length) := by rw [wsp.eq_def]; dsimp only; rw [if_neg (by decide), if_neg (by decide), if_pos rfl]
theorem wsp_bad {c : Nat} {t : List Nat} (ln co : Nat) (h1 : c ≠ 10) (h2 : c ≠ 32) (h3 : c ≠ 35) (h : tok (c :: t) = 0) : wsp (c :: t) ln co = ([], .tuple [.int ln, .int co]) := by
  rw [wsp.eq_def]; dsimp only; rw [if_neg h1, if_neg h2, if_neg h3, dif_pos h]
theorem wsp_tok {c : Nat} {t : List Nat} (ln co : Nat) (h1 : c ≠ 10) (h2 : c ≠ 32) (h3 : c ≠ 35) (h : tok (c :: t) ≠ 0) : wsp (c :: t) ln co =
    (.tuple [.str ⟨((c :: t).take (tok (c :: t))).toArray⟩, .int ln, .int co] :: (wsp ((c :: t).drop (tok (c :: t))) ln (co + tok (c :: t))).1, (wsp ((c :: t).drop (tok (c :: t))) ln (co + tok (c :: t))).2) := by
  rw [wsp.eq_def]; dsimp only; rw [if_neg h1, if_neg h2, if_neg h3, dif_neg h]
theorem apart_loop {z : Str} (hz : z.length ≤ 16777000) (p : Pot) : ∀ (m k : Nat) (fs : List PyData) (ln b : Nat) (x : Slot), z.cps.toList.length - k ≤ m → k ≤ z.cps.toList.length → b ≤ k → fs.length + (z.cps.toList.length - k) ≤ 16777100 →
    ∃ y o, whileS (binE (opF ltK) (varE 4) (callE lenV [(varE 0)])) (iteS (binE (opF eqK) (binE ixV (varE 0) (varE 4)) (constE (.str "\n"))) (parS [2, 3, 4] [(binE addV (varE 2) (constE (.int 1))), (binE addV (varE 4) (constE (.int 1))), (binE addV (varE 4) (constE (.int 1)))]) (iteS (binE (opF eqK) (binE ixV (varE 0) (varE 4)) (constE (.str " "))) (setS 4 (binE addV (varE 4) (constE (.int 1)))) (iteS (binE (opF eqK) (binE ixV (varE 0) (varE 4)) (constE (.str "#"))) (setS 4 (callF F_remark_end [(varE 0), (varE 4)])) (seqS (setS 5 (callF F_text_word_size [(varE 0), (varE 4)]))
    (seqS (iteS (binE (opF eqK) (varE 5) (constE (.int 0))) (retS (tupE [(varE 1), (tupE [(varE 2), (binE (opF subK) (varE 4) (varE 3))]), (tupE [(varE 2), (binE (opF subK) (varE 4) (varE 3))])])) nxS)
    (seqS (appS 1 (tupE [(slE (varE 0) (some (varE 4)) (some (binE addV (varE 4) (varE 5)))), (varE 2), (binE (opF subK) (varE 4) (varE 3))]))
    (setS 4 (binE addV (varE 4) (varE 5))))))))) [.sh (.str z), .own (.list fs), .sh (.int ln), .sh (.int b), .sh (.int k), x] p = some o ∧
      (o = .rt (.sh (.tuple [.list (fs ++ (wsp (z.cps.toList.drop k) ln (k - b)).1), (wsp (z.cps.toList.drop k) ln (k - b)).2, y])) p ∨
        ((wsp (z.cps.toList.drop k) ln (k - b)).2 = .none ∧ ∃ (ln' b' k' : Nat) (x' : Slot), o = .nx [.sh (.str z), .own (.list (fs ++ (wsp (z.cps.toList.drop k) ln (k - b)).1)), .sh (.int ln'), .sh (.int b'), .sh (.int k'), x'] p)) := by
  intro m
  induction m with
  | zero =>
    intro k fs ln b x hm hk hb hf
    have e : k = z.cps.toList.length := by omega
    have hz' : z.length ≤ 16777216 := by omega
    have hc : ¬ ((k : Int) < (z.length : Int)) := by rw [slen]; omega
    rw [whileS_eq]
    simp only [fillSl, List.length_cons, List.length_nil, List.replicate, List.cons_append, List.nil_append, List.getElem?_cons_zero, List.getElem?_cons_succ, List.set_cons_zero, List.set_cons_succ, Nat.reduceAdd, Nat.reduceSub, Nat.reduceLT, seqS, nxS, setS, dropS, retS, iteS, retV, asg, potS, potDivS, appS, extS, unpS, parS, asgPs, asgP, asgD, asgDs, calm, binE, unE, potE, constE, varE, andE, orE, notE, ifE, tupE, lstE, slE, optE, callE, callF, callKF, methE, isiE, argsE, argsOf, datsOf, resV, newT, newL, shq, shf, opF, cF, addV, mulV, ixV, slV, gtK, ltK, leK, geK, subK, addK, mulK, fdivK, modK, powK, eq_int, ne_int, eq_str, ne_str, intK, absK, isiB, Val.dat, Val.items, flat, flatA, isL, Bool.and_true, Bool.true_and, Bool.false_and, Bool.and_false, if_true, if_false, Bool.false_eq_true, Option.map_some, Option.map_none, Bool.not_true, Bool.not_false, decide_true, decide_false, reduceIte, reduceCtorEq, and_self, true_and, and_true, yes_ap, sizeLine_eq, Nat.reduceLeDiff, lenV, hz', hc]
    rw [e, List.drop_length, wsp_nil, List.append_nil]
    exact ⟨.none, _, rfl, .inr ⟨rfl, ln, b, z.cps.toList.length, x, rfl⟩⟩
  | succ m ih =>
    intro k fs ln b x hm hk hb hf
    have hz' : z.length ≤ 16777216 := by omega
    by_cases hkl : k < z.cps.toList.length
    · have hc : ((k : Int) < (z.length : Int)) := by rw [slen]; omega
      have ha := at_nat hkl
      have hre := remark_end hz' hkl p
      have htw := text_word_size hz' hkl p
      have hd := drop_cons hkl
      rw [whileS_eq, hd]
      rw [hd] at hre htw
      generalize z.cps.toList[k] = c at ha hd hre htw ⊢
      have e1 : ((ln : Int) + 1) = ((ln + 1 : Nat) : Int) := rfl
      have e2 : ((k : Int) + 1) = ((k + 1 : Nat) : Int) := rfl
      by_cases h1 : c = 10
      · subst h1
        obtain ⟨y, o, eo, ho⟩ := ih (k + 1) fs (ln + 1) (k + 1) x (by omega) (by omega) (by omega) (by omega)
        rw [wsp_nl]
        rw [Nat.sub_self] at ho
        refine ⟨y, o, ?_, ho⟩
        simp only [fillSl, List.length_cons, List.length_nil, List.replicate, List.cons_append, List.nil_append, List.getElem?_cons_zero, List.getElem?_cons_succ, List.set_cons_zero, List.set_cons_succ, Nat.reduceAdd, Nat.reduceSub, Nat.reduceLT, seqS, nxS, setS, dropS, retS, iteS, retV, asg, potS, potDivS, appS, extS, unpS, parS, asgPs, asgP, asgD, asgDs, calm, binE, unE, potE, constE, varE, andE, orE, notE, ifE, tupE, lstE, slE, optE, callE, callF, callKF, methE, isiE, argsE, argsOf, datsOf, resV, newT, newL, shq, shf, opF, cF, addV, mulV, ixV, slV, gtK, ltK, leK, geK, subK, addK, mulK, fdivK, modK, powK, eq_int, ne_int, eq_str, ne_str, intK, absK, isiB, Val.dat, Val.items, flat, flatA, isL, Bool.and_true, Bool.true_and, Bool.false_and, Bool.and_false, if_true, if_false, Bool.false_eq_true, Option.map_some, Option.map_none, Bool.not_true, Bool.not_false, decide_true, decide_false, reduceIte, reduceCtorEq, and_self, true_and, and_true, yes_ap, sizeLine_eq, Nat.reduceLeDiff, lenV, hz', hc, ha, nl_eq, e1, e2]
        exact eo
      by_cases h2 : c = 32
      · subst h2
        obtain ⟨y, o, eo, ho⟩ := ih (k + 1) fs ln b x (by omega) (by omega) (by omega) (by omega)
        rw [wsp_sp]
        rw [show k + 1 - b = k - b + 1 by omega] at ho
        refine ⟨y, o, ?_, ho⟩
        simp only [fillSl, List.length_cons, List.length_nil, List.replicate, List.cons_append, List.nil_append, List.getElem?_cons_zero, List.getElem?_cons_succ, List.set_cons_zero, List.set_cons_succ, Nat.reduceAdd, Nat.reduceSub, Nat.reduceLT, seqS, nxS, setS, dropS, retS, iteS, retV, asg, potS, potDivS, appS, extS, unpS, parS, asgPs, asgP, asgD, asgDs, calm, binE, unE, potE, constE, varE, andE, orE, notE, ifE, tupE, lstE, slE, optE, callE, callF, callKF, methE, isiE, argsE, argsOf, datsOf, resV, newT, newL, shq, shf, opF, cF, addV, mulV, ixV, slV, gtK, ltK, leK, geK, subK, addK, mulK, fdivK, modK, powK, eq_int, ne_int, eq_str, ne_str, intK, absK, isiB, Val.dat, Val.items, flat, flatA, isL, Bool.and_true, Bool.true_and, Bool.false_and, Bool.and_false, if_true, if_false, Bool.false_eq_true, Option.map_some, Option.map_none, Bool.not_true, Bool.not_false, decide_true, decide_false, reduceIte, reduceCtorEq, and_self, true_and, and_true, yes_ap, sizeLine_eq, Nat.reduceLeDiff, lenV, hz', hc, ha, nl_eq, sp_eq, h1, e1, e2]
        exact eo
      by_cases h3 : c = 35
      · subst h3
        have hq : ((35 :: z.cps.toList.drop (k + 1)).takeWhile (· != 10)) = 35 :: (z.cps.toList.drop (k + 1)).takeWhile (· != 10) := rfl
        rw [hq, List.length_cons] at hre
        have hlen : ((z.cps.toList.drop (k + 1)).takeWhile (· != 10)).length ≤ (z.cps.toList.drop (k + 1)).length := (List.takeWhile_prefix _).length_le
        rw [List.length_drop] at hlen
        rw [wsp_ha, dropW, List.drop_drop]
        generalize ((z.cps.toList.drop (k + 1)).takeWhile (· != 10)).length = n at hre hlen ⊢
        obtain ⟨y, o, eo, ho⟩ := ih (k + (n + 1)) fs ln b x (by omega) (by omega) (by omega) (by omega)
        rw [show k + 1 + n = k + (n + 1) by omega, show k - b + 1 + n = k + (n + 1) - b by omega]
        refine ⟨y, o, ?_, ho⟩
        simp only [fillSl, List.length_cons, List.length_nil, List.replicate, List.cons_append, List.nil_append, List.getElem?_cons_zero, List.getElem?_cons_succ, List.set_cons_zero, List.set_cons_succ, Nat.reduceAdd, Nat.reduceSub, Nat.reduceLT, seqS, nxS, setS, dropS, retS, iteS, retV, asg, potS, potDivS, appS, extS, unpS, parS, asgPs, asgP, asgD, asgDs, calm, binE, unE, potE, constE, varE, andE, orE, notE, ifE, tupE, lstE, slE, optE, callE, callF, callKF, methE, isiE, argsE, argsOf, datsOf, resV, newT, newL, shq, shf, opF, cF, addV, mulV, ixV, slV, gtK, ltK, leK, geK, subK, addK, mulK, fdivK, modK, powK, eq_int, ne_int, eq_str, ne_str, intK, absK, isiB, Val.dat, Val.items, flat, flatA, isL, Bool.and_true, Bool.true_and, Bool.false_and, Bool.and_false, if_true, if_false, Bool.false_eq_true, Option.map_some, Option.map_none, Bool.not_true, Bool.not_false, decide_true, decide_false, reduceIte, reduceCtorEq, and_self, true_and, and_true, yes_ap, sizeLine_eq, Nat.reduceLeDiff, lenV, hz', hc, ha, nl_eq, sp_eq, ha_eq, h1, h2, hre]
        exact eo
      have hl := tok_le (c :: z.cps.toList.drop (k + 1))
      rw [List.length_cons, List.length_drop] at hl
      have es : ((k : Int) - (b : Int)) = ((k - b : Nat) : Int) := by omega
      by_cases h4 : tok (c :: z.cps.toList.drop (k + 1)) = 0
      · rw [wsp_bad ln (k - b) h1 h2 h3 h4]
        rw [h4] at htw
        refine ⟨.tuple [.int ln, .int (k - b : Nat)], _, ?_, .inl rfl⟩
        rw [List.append_nil]
        have e0 : decide (((0 : Nat) : Int) = 0) = true := rfl
        simp only [fillSl, List.length_cons, List.length_nil, List.replicate, List.cons_append, List.nil_append, List.getElem?_cons_zero, List.getElem?_cons_succ, List.set_cons_zero, List.set_cons_succ, Nat.reduceAdd, Nat.reduceSub, Nat.reduceLT, seqS, nxS, setS, dropS, retS, iteS, retV, asg, potS, potDivS, appS, extS, unpS, parS, asgPs, asgP, asgD, asgDs, calm, binE, unE, potE, constE, varE, andE, orE, notE, ifE, tupE, lstE, slE, optE, callE, callF, callKF, methE, isiE, argsE, argsOf, datsOf, resV, newT, newL, shq, shf, opF, cF, addV, mulV, ixV, slV, gtK, ltK, leK, geK, subK, addK, mulK, fdivK, modK, powK, eq_int, ne_int, eq_str, ne_str, intK, absK, isiB, Val.dat, Val.items, flat, flatA, isL, Bool.and_true, Bool.true_and, Bool.false_and, Bool.and_false, if_true, if_false, Bool.false_eq_true, Option.map_some, Option.map_none, Bool.not_true, Bool.not_false, decide_true, decide_false, reduceIte, reduceCtorEq, and_self, true_and, and_true, yes_ap, sizeLine_eq, Nat.reduceLeDiff, lenV, hz', hc, ha, nl_eq, sp_eq, ha_eq, h1, h2, h3, htw, es, e0]
      · rw [wsp_tok ln (k - b) h1 h2 h3 h4]
        have hcut := cut_at (z := z) (k := k) (n := tok (c :: z.cps.toList.drop (k + 1))) (by omega)
        rw [hd] at hcut
        have hdr : (c :: z.cps.toList.drop (k + 1)).drop (tok (c :: z.cps.toList.drop (k + 1))) = z.cps.toList.drop (k + tok (c :: z.cps.toList.drop (k + 1))) := by
          rw [← hd, List.drop_drop]
        rw [hdr]
        generalize tok (c :: z.cps.toList.drop (k + 1)) = n at htw hl h4 hcut ⊢
        generalize (⟨((c :: z.cps.toList.drop (k + 1)).take n).toArray⟩ : Str) = w at hcut ⊢
        obtain ⟨y, o, eo, ho⟩ := ih (k + n) (fs ++ [.tuple [.str w, .int ln, .int (k - b : Nat)]]) ln b (.sh (.int n)) (by omega) (by omega) (by omega) (by rw [List.length_append, List.length_singleton]; omega)
        rw [show k + n - b = k - b + n by omega, List.append_assoc] at ho
        refine ⟨y, o, ?_, ho⟩
        have hn : ¬ ((n : Int) = 0) := by omega
        have hfl : fs.length < 16777216 := by omega
        have e3 : ((k : Int) + (n : Int)) = ((k + n : Nat) : Int) := rfl
        simp only [fillSl, List.length_cons, List.length_nil, List.replicate, List.cons_append, List.nil_append, List.getElem?_cons_zero, List.getElem?_cons_succ, List.set_cons_zero, List.set_cons_succ, Nat.reduceAdd, Nat.reduceSub, Nat.reduceLT, seqS, nxS, setS, dropS, retS, iteS, retV, asg, potS, potDivS, appS, extS, unpS, parS, asgPs, asgP, asgD, asgDs, calm, binE, unE, potE, constE, varE, andE, orE, notE, ifE, tupE, lstE, slE, optE, callE, callF, callKF, methE, isiE, argsE, argsOf, datsOf, resV, newT, newL, shq, shf, opF, cF, addV, mulV, ixV, slV, gtK, ltK, leK, geK, subK, addK, mulK, fdivK, modK, powK, eq_int, ne_int, eq_str, ne_str, intK, absK, isiB, Val.dat, Val.items, flat, flatA, isL, Bool.and_true, Bool.true_and, Bool.false_and, Bool.and_false, if_true, if_false, Bool.false_eq_true, Option.map_some, Option.map_none, Bool.not_true, Bool.not_false, decide_true, decide_false, reduceIte, reduceCtorEq, and_self, true_and, and_true, yes_ap, sizeLine_eq, Nat.reduceLeDiff, lenV, hz', hc, ha, nl_eq, sp_eq, ha_eq, h1, h2, h3, htw, es, hn, hcut, hfl]
        exact eo
    · have e : k = z.cps.toList.length := by omega
      have hc : ¬ ((k : Int) < (z.length : Int)) := by rw [slen]; omega
      rw [whileS_eq]
      simp only [fillSl, List.length_cons, List.length_nil, List.replicate, List.cons_append, List.nil_append, List.getElem?_cons_zero, List.getElem?_cons_succ, List.set_cons_zero, List.set_cons_succ, Nat.reduceAdd, Nat.reduceSub, Nat.reduceLT, seqS, nxS, setS, dropS, retS, iteS, retV, asg, potS, potDivS, appS, extS, unpS, parS, asgPs, asgP, asgD, asgDs, calm, binE, unE, potE, constE, varE, andE, orE, notE, ifE, tupE, lstE, slE, optE, callE, callF, callKF, methE, isiE, argsE, argsOf, datsOf, resV, newT, newL, shq, shf, opF, cF, addV, mulV, ixV, slV, gtK, ltK, leK, geK, subK, addK, mulK, fdivK, modK, powK, eq_int, ne_int, eq_str, ne_str, intK, absK, isiB, Val.dat, Val.items, flat, flatA, isL, Bool.and_true, Bool.true_and, Bool.false_and, Bool.and_false, if_true, if_false, Bool.false_eq_true, Option.map_some, Option.map_none, Bool.not_true, Bool.not_false, decide_true, decide_false, reduceIte, reduceCtorEq, and_self, true_and, and_true, yes_ap, sizeLine_eq, Nat.reduceLeDiff, lenV, hz', hc]
      rw [e, List.drop_length, wsp_nil, List.append_nil]
      exact ⟨.none, _, rfl, .inr ⟨rfl, ln, b, z.cps.toList.length, x, rfl⟩⟩
theorem words_apart {z : Str} (hz : z.length ≤ 16777000) (p : Pot) : ∃ y, F_words_apart [.sh (.str z)] p = some (.sh (.tuple [.list (wsp z.cps.toList 0 0).1, (wsp z.cps.toList 0 0).2, y]), p) := by
  have hs := slen z
  obtain ⟨y, o, eo, ho⟩ := apart_loop hz p z.cps.toList.length 0 [] 0 0 .un (by omega) (by omega) (by omega) (by rw [List.length_nil]; omega)
  rw [List.drop_zero, Nat.sub_self, List.nil_append] at ho
  have e0 : ((0 : Nat) : Int) = 0 := rfl
  rw [e0] at eo
  unfold F_words_apart B_words_apart defF
  rcases ho with rfl | ⟨hn, ln, b, k, x, rfl⟩
  · refine ⟨y, ?_⟩
    simp only [fillSl, List.length_cons, List.length_nil, List.replicate, List.cons_append, List.nil_append, List.getElem?_cons_zero, List.getElem?_cons_succ, List.set_cons_zero, List.set_cons_succ, Nat.reduceAdd, Nat.reduceSub, Nat.reduceLT, seqS, nxS, setS, dropS, retS, iteS, retV, asg, potS, potDivS, appS, extS, unpS, parS, asgPs, asgP, asgD, asgDs, calm, binE, unE, potE, constE, varE, andE, orE, notE, ifE, tupE, lstE, slE, optE, callE, callF, callKF, methE, isiE, argsE, argsOf, datsOf, resV, newT, newL, shq, shf, opF, cF, addV, mulV, ixV, slV, gtK, ltK, leK, geK, subK, addK, mulK, fdivK, modK, powK, eq_int, ne_int, eq_str, ne_str, intK, absK, isiB, Val.dat, Val.items, flat, flatA, isL, Bool.and_true, Bool.true_and, Bool.false_and, Bool.and_false, if_true, if_false, Bool.false_eq_true, Option.map_some, Option.map_none, Bool.not_true, Bool.not_false, decide_true, decide_false, reduceIte, reduceCtorEq, and_self, true_and, and_true, yes_ap, sizeLine_eq, Nat.reduceLeDiff, eo]
  · refine ⟨.tuple [.int ln, .int ((k : Int) - (b : Int))], ?_⟩
    simp only [fillSl, List.length_cons, List.length_nil, List.replicate, List.cons_append, List.nil_append, List.getElem?_cons_zero, List.getElem?_cons_succ, List.set_cons_zero, List.set_cons_succ, Nat.reduceAdd, Nat.reduceSub, Nat.reduceLT, seqS, nxS, setS, dropS, retS, iteS, retV, asg, potS, potDivS, appS, extS, unpS, parS, asgPs, asgP, asgD, asgDs, calm, binE, unE, potE, constE, varE, andE, orE, notE, ifE, tupE, lstE, slE, optE, callE, callF, callKF, methE, isiE, argsE, argsOf, datsOf, resV, newT, newL, shq, shf, opF, cF, addV, mulV, ixV, slV, gtK, ltK, leK, geK, subK, addK, mulK, fdivK, modK, powK, eq_int, ne_int, eq_str, ne_str, intK, absK, isiB, Val.dat, Val.items, flat, flatA, isL, Bool.and_true, Bool.true_and, Bool.false_and, Bool.and_false, if_true, if_false, Bool.false_eq_true, Option.map_some, Option.map_none, Bool.not_true, Bool.not_false, decide_true, decide_false, reduceIte, reduceCtorEq, and_self, true_and, and_true, yes_ap, sizeLine_eq, Nat.reduceLeDiff, eo, hn]
theorem is_text {z : Str} (hz : z.length ≤ 60000) (p : Pot) : F_want_text [.sh (.str z)] p = some (.sh .none, p) := by
  have h1 : ((z.length : Int) ≤ 60000) := by omega
  have h2 : z.length ≤ 16777216 := by omega
  unfold F_want_text B_want_text defF
  have e : F_is_text_any [.sh (.str z)] p = some (.sh (.bool true), p) := by
    unfold F_is_text_any B_is_text_any defF
    simp only [fillSl, List.length_cons, List.length_nil, List.replicate, List.cons_append, List.nil_append, List.getElem?_cons_zero, List.getElem?_cons_succ, List.set_cons_zero, List.set_cons_succ, Nat.reduceAdd, Nat.reduceSub, Nat.reduceLT, seqS, nxS, setS, dropS, retS, iteS, retV, asg, potS, potDivS, appS, extS, unpS, parS, asgPs, asgP, asgD, asgDs, calm, binE, unE, potE, constE, varE, andE, orE, notE, ifE, tupE, lstE, slE, optE, callE, callF, callKF, methE, isiE, argsE, argsOf, datsOf, resV, newT, newL, shq, shf, opF, cF, addV, mulV, ixV, slV, gtK, ltK, leK, geK, subK, addK, mulK, fdivK, modK, powK, eq_int, ne_int, eq_str, ne_str, intK, absK, isiB, Val.dat, Val.items, flat, flatA, isL, Bool.and_true, Bool.true_and, Bool.false_and, Bool.and_false, if_true, if_false, Bool.false_eq_true, Option.map_some, Option.map_none, Bool.not_true, Bool.not_false, decide_true, decide_false, reduceIte, reduceCtorEq, and_self, true_and, and_true, yes_ap, sizeLine_eq, Nat.reduceLeDiff, lenV, h1, h2]
  simp only [fillSl, List.length_cons, List.length_nil, List.replicate, List.cons_append, List.nil_append, List.getElem?_cons_zero, List.getElem?_cons_succ, List.set_cons_zero, List.set_cons_succ, Nat.reduceAdd, Nat.reduceSub, Nat.reduceLT, seqS, nxS, setS, dropS, retS, iteS, retV, asg, potS, potDivS, appS, extS, unpS, parS, asgPs, asgP, asgD, asgDs, calm, binE, unE, potE, constE, varE, andE, orE, notE, ifE, tupE, lstE, slE, optE, callE, callF, callKF, methE, isiE, argsE, argsOf, datsOf, resV, newT, newL, shq, shf, opF, cF, addV, mulV, ixV, slV, gtK, ltK, leK, geK, subK, addK, mulK, fdivK, modK, powK, eq_int, ne_int, eq_str, ne_str, intK, absK, isiB, Val.dat, Val.items, flat, flatA, isL, Bool.and_true, Bool.true_and, Bool.false_and, Bool.and_false, if_true, if_false, Bool.false_eq_true, Option.map_some, Option.map_none, Bool.not_true, Bool.not_false, decide_true, decide_false, reduceIte, reduceCtorEq, and_self, true_and, and_true, yes_ap, sizeLine_eq, Nat.reduceLeDiff, e]
theorem few {ds : List PyData} (h : ds.length ≤ 12000) (p : Pot) : F_want_few_words [.sh (.list ds)] p = some (.sh .none, p) := by
  have h1 : ¬ ((12000 : Int) < (ds.length : Int)) := by omega
  unfold F_want_few_words B_want_few_words defF
  simp only [fillSl, List.length_cons, List.length_nil, List.replicate, List.cons_append, List.nil_append, List.getElem?_cons_zero, List.getElem?_cons_succ, List.set_cons_zero, List.set_cons_succ, Nat.reduceAdd, Nat.reduceSub, Nat.reduceLT, seqS, nxS, setS, dropS, retS, iteS, retV, asg, potS, potDivS, appS, extS, unpS, parS, asgPs, asgP, asgD, asgDs, calm, binE, unE, potE, constE, varE, andE, orE, notE, ifE, tupE, lstE, slE, optE, callE, callF, callKF, methE, isiE, argsE, argsOf, datsOf, resV, newT, newL, shq, shf, opF, cF, addV, mulV, ixV, slV, gtK, ltK, leK, geK, subK, addK, mulK, fdivK, modK, powK, eq_int, ne_int, eq_str, ne_str, intK, absK, isiB, Val.dat, Val.items, flat, flatA, isL, Bool.and_true, Bool.true_and, Bool.false_and, Bool.and_false, if_true, if_false, Bool.false_eq_true, Option.map_some, Option.map_none, Bool.not_true, Bool.not_false, decide_true, decide_false, reduceIte, reduceCtorEq, and_self, true_and, and_true, yes_ap, sizeLine_eq, Nat.reduceLeDiff, lenV, h1]
theorem text_words {z : Str} (hz : z.length ≤ 60000) (h : (wsp z.cps.toList 0 0).1.length ≤ 12000) (p : Pot) : F_text_words [.sh (.str z)] p = some (.sh (.list (wsp z.cps.toList 0 0).1), p) := by
  obtain ⟨y, e⟩ := words_apart (z := z) (by omega) p
  have e2 := few h p
  have e3 := is_text hz p
  generalize wsp z.cps.toList 0 0 = w at e e2 ⊢
  have ha : atI [PyData.list w.1, w.2, y] 0 = some (.list w.1) := atI_nat (j := 0) rfl
  unfold F_text_words B_text_words defF
  simp only [fillSl, List.length_cons, List.length_nil, List.replicate, List.cons_append, List.nil_append, List.getElem?_cons_zero, List.getElem?_cons_succ, List.set_cons_zero, List.set_cons_succ, Nat.reduceAdd, Nat.reduceSub, Nat.reduceLT, seqS, nxS, setS, dropS, retS, iteS, retV, asg, potS, potDivS, appS, extS, unpS, parS, asgPs, asgP, asgD, asgDs, calm, binE, unE, potE, constE, varE, andE, orE, notE, ifE, tupE, lstE, slE, optE, callE, callF, callKF, methE, isiE, argsE, argsOf, datsOf, resV, newT, newL, shq, shf, opF, cF, addV, mulV, ixV, slV, gtK, ltK, leK, geK, subK, addK, mulK, fdivK, modK, powK, eq_int, ne_int, eq_str, ne_str, intK, absK, isiB, Val.dat, Val.items, flat, flatA, isL, Bool.and_true, Bool.true_and, Bool.false_and, Bool.and_false, if_true, if_false, Bool.false_eq_true, Option.map_some, Option.map_none, Bool.not_true, Bool.not_false, decide_true, decide_false, reduceIte, reduceCtorEq, and_self, true_and, and_true, yes_ap, sizeLine_eq, Nat.reduceLeDiff, e, e2, e3, ha]
theorem wrong_sign {z : Str} (hz : z.length ≤ 60000) (p : Pot) : F_wrong_sign [.sh (.str z)] p = some (.sh (wsp z.cps.toList 0 0).2, p) := by
  obtain ⟨y, e⟩ := words_apart (z := z) (by omega) p
  have e3 := is_text hz p
  generalize wsp z.cps.toList 0 0 = w at e ⊢
  have ha : atI [PyData.list w.1, w.2, y] 1 = some w.2 := atI_nat (j := 1) rfl
  unfold F_wrong_sign B_wrong_sign defF
  simp only [fillSl, List.length_cons, List.length_nil, List.replicate, List.cons_append, List.nil_append, List.getElem?_cons_zero, List.getElem?_cons_succ, List.set_cons_zero, List.set_cons_succ, Nat.reduceAdd, Nat.reduceSub, Nat.reduceLT, seqS, nxS, setS, dropS, retS, iteS, retV, asg, potS, potDivS, appS, extS, unpS, parS, asgPs, asgP, asgD, asgDs, calm, binE, unE, potE, constE, varE, andE, orE, notE, ifE, tupE, lstE, slE, optE, callE, callF, callKF, methE, isiE, argsE, argsOf, datsOf, resV, newT, newL, shq, shf, opF, cF, addV, mulV, ixV, slV, gtK, ltK, leK, geK, subK, addK, mulK, fdivK, modK, powK, eq_int, ne_int, eq_str, ne_str, intK, absK, isiB, Val.dat, Val.items, flat, flatA, isL, Bool.and_true, Bool.true_and, Bool.false_and, Bool.and_false, if_true, if_false, Bool.false_eq_true, Option.map_some, Option.map_none, Bool.not_true, Bool.not_false, decide_true, decide_false, reduceIte, reduceCtorEq, and_self, true_and, and_true, yes_ap, sizeLine_eq, Nat.reduceLeDiff, e, e3, ha]
  cases h : w.2 <;> rfl
end K11
namespace K11
open PySem PySem.Spec PyProof.Rows L2 Pu
theorem strip_empty (v y : Str) : (Txt.stripChars v y = ⟨#[]⟩) ↔ ∀ c ∈ v.cps.toList, y.cps.contains c = true := by
  unfold Txt.stripChars
  rw [stripBy_eq]
  obtain ⟨l1, l2, l3⟩ := lo_facts y.cps.contains v
  obtain ⟨h1, h2, h3, h4⟩ := hi_facts y.cps.contains v _ l1
  generalize stripLo y.cps.contains true v = lo at *
  generalize stripHi y.cps.contains true v lo = hi at *
  have hl : (PySem.Builtin.Str.strSub v lo hi).cps.toList = (v.cps.toList.drop lo).take (hi - lo) := StrLaws.strSub_toList v lo hi
  have hs := slen v
  constructor
  · intro h c hc
    rw [h] at hl
    have hz : ((v.cps.toList.drop lo).take (hi - lo)).length = 0 := by rw [← hl]; rfl
    rw [List.length_take, List.length_drop, ← hs] at hz
    obtain ⟨i, hi', e⟩ := List.mem_iff_getElem.mp hc
    have eg : v.cps.getD i 0 = c := StrLaws.getD_of_getElem? (by rw [List.getElem?_eq_getElem hi', e])
    rw [← eg]
    by_cases hk : i < lo
    · exact l2 i hk
    · exact h3 i (by omega) (by omega)
  · intro h
    have hlo : lo = v.length := by
      rcases l3 with e | e
      · exact e
      · refine Classical.byContradiction fun hn => ?_
        have hlt : lo < v.cps.toList.length := by omega
        have hm := h _ (List.getElem_mem hlt)
        rw [← StrLaws.getD_of_getElem? (List.getElem?_eq_getElem hlt)] at hm
        rw [hm] at e
        cases e
    have : ((v.cps.toList.drop lo).take (hi - lo)) = [] := by
      rw [show hi - lo = 0 by omega]
      rfl
    rw [this] at hl
    apply Str.ext'
    apply Array.toList_inj.mp
    exact hl
theorem strip_figs (v : Str) : decide (Txt.stripChars v (Str.ofString "0123456789") = Str.ofString "") = v.cps.toList.all fg := by
  rw [Bool.eq_iff_iff, decide_eq_true_eq, show (Str.ofString "") = (⟨#[]⟩ : Str) from rfl, strip_empty, List.all_eq_true]
  refine forall_congr' fun c => forall_congr' fun _ => ?_
  rw [← mem_fig, decide_eq_true_eq, ← Array.contains_toList, List.contains_iff_mem]
theorem law_run_loop {z : Str} (hz : z.length ≤ 16777216) (k : Nat) (p : Pot) : ∀ (m n : Nat), m = z.cps.toList.length - (k + n) → k + n ≤ z.cps.toList.length →
    whileS (andE (binE (opF ltK) (binE addV (varE 1) (varE 2)) (callE lenV [(varE 0)])) (binE inV' (binE ixV (varE 0) (binE addV (varE 1) (varE 2))) (constE (.str "abcdefghijklmnopqrstuvwxyz0123456789")))) (setS 2 (binE addV (varE 2) (constE (.int 1)))) [.sh (.str z), .sh (.int k), .sh (.int n), .un, .un, .un] p = some (.nx [.sh (.str z), .sh (.int k), .sh (.int (n + runLen (z.cps.toList.drop (k + n)) : Nat)), .un, .un, .un] p)
  | 0, n, hm, hn => by
    have e : k + n = z.cps.toList.length := by omega
    have hc : ¬ ((k : Int) + (n : Int) < (z.length : Int)) := by rw [slen]; omega
    rw [whileS_eq]
    simp only [fillSl, List.length_cons, List.length_nil, List.replicate, List.cons_append, List.nil_append, List.getElem?_cons_zero, List.getElem?_cons_succ, List.set_cons_zero, List.set_cons_succ, Nat.reduceAdd, Nat.reduceSub, Nat.reduceLT, seqS, nxS, setS, dropS, retS, iteS, retV, asg, potS, potDivS, appS, extS, unpS, parS, asgPs, asgP, asgD, asgDs, calm, binE, unE, potE, constE, varE, andE, orE, notE, ifE, tupE, lstE, slE, optE, callE, callF, callKF, methE, isiE, argsE, argsOf, datsOf, resV, newT, newL, shq, shf, opF, cF, addV, mulV, ixV, slV, gtK, ltK, leK, geK, subK, addK, mulK, fdivK, modK, powK, eq_int, ne_int, eq_str, ne_str, intK, absK, isiB, Val.dat, Val.items, flat, flatA, isL, Bool.and_true, Bool.true_and, Bool.false_and, Bool.and_false, if_true, if_false, Bool.false_eq_true, Option.map_some, Option.map_none, Bool.not_true, Bool.not_false, decide_true, decide_false, reduceIte, reduceCtorEq, and_self, true_and, and_true, yes_ap, sizeLine_eq, Nat.reduceLeDiff, lenV, hz, hc]
    rw [e, List.drop_length]
    rfl
  | m + 1, n, hm, hn => by
    have hl : k + n < z.cps.toList.length := by omega
    have hc : ((k : Int) + (n : Int) < (z.length : Int)) := by rw [slen]; omega
    rw [whileS_eq, drop_cons hl, runLen_cons]
    have ha := at_add hl
    generalize z.cps.toList[k + n] = c at ha ⊢
    have ih := law_run_loop hz k p m (n + 1) (by omega) (by omega)
    have e1 : ((n : Int) + 1) = ((n + 1 : Nat) : Int) := rfl
    cases h1 : rn c with
    | true =>
      simp only [fillSl, List.length_cons, List.length_nil, List.replicate, List.cons_append, List.nil_append, List.getElem?_cons_zero, List.getElem?_cons_succ, List.set_cons_zero, List.set_cons_succ, Nat.reduceAdd, Nat.reduceSub, Nat.reduceLT, seqS, nxS, setS, dropS, retS, iteS, retV, asg, potS, potDivS, appS, extS, unpS, parS, asgPs, asgP, asgD, asgDs, calm, binE, unE, potE, constE, varE, andE, orE, notE, ifE, tupE, lstE, slE, optE, callE, callF, callKF, methE, isiE, argsE, argsOf, datsOf, resV, newT, newL, shq, shf, opF, cF, addV, mulV, ixV, slV, gtK, ltK, leK, geK, subK, addK, mulK, fdivK, modK, powK, eq_int, ne_int, eq_str, ne_str, intK, absK, isiB, Val.dat, Val.items, flat, flatA, isL, Bool.and_true, Bool.true_and, Bool.false_and, Bool.and_false, if_true, if_false, Bool.false_eq_true, Option.map_some, Option.map_none, Bool.not_true, Bool.not_false, decide_true, decide_false, reduceIte, reduceCtorEq, and_self, true_and, and_true, yes_ap, sizeLine_eq, Nat.reduceLeDiff, lenV, hz, hc, ha, in_one, mem_run, h1, e1, ih]
      rw [show n + 1 + runLen (z.cps.toList.drop (k + (n + 1))) = n + (runLen (z.cps.toList.drop (k + n + 1)) + 1) by rw [Nat.add_assoc k n 1]; omega]
    | false =>
      simp only [fillSl, List.length_cons, List.length_nil, List.replicate, List.cons_append, List.nil_append, List.getElem?_cons_zero, List.getElem?_cons_succ, List.set_cons_zero, List.set_cons_succ, Nat.reduceAdd, Nat.reduceSub, Nat.reduceLT, seqS, nxS, setS, dropS, retS, iteS, retV, asg, potS, potDivS, appS, extS, unpS, parS, asgPs, asgP, asgD, asgDs, calm, binE, unE, potE, constE, varE, andE, orE, notE, ifE, tupE, lstE, slE, optE, callE, callF, callKF, methE, isiE, argsE, argsOf, datsOf, resV, newT, newL, shq, shf, opF, cF, addV, mulV, ixV, slV, gtK, ltK, leK, geK, subK, addK, mulK, fdivK, modK, powK, eq_int, ne_int, eq_str, ne_str, intK, absK, isiB, Val.dat, Val.items, flat, flatA, isL, Bool.and_true, Bool.true_and, Bool.false_and, Bool.and_false, if_true, if_false, Bool.false_eq_true, Option.map_some, Option.map_none, Bool.not_true, Bool.not_false, decide_true, decide_false, reduceIte, reduceCtorEq, and_self, true_and, and_true, yes_ap, sizeLine_eq, Nat.reduceLeDiff, lenV, hz, hc, ha, in_one, mem_run, h1]
      rfl
theorem law_size {z : Str} (hz : z.length ≤ 16777216) {k : Nat} (hk : k < z.cps.toList.length) (p : Pot) : F_law_size [.sh (.str z), .sh (.int k)] p = some (.sh (.int (tok (z.cps.toList.drop k))), p) := by
  have ha := at_nat hk
  have hr := law_run_loop hz k p (z.cps.toList.length - k) 0 (by simp) (by simpa using Nat.le_of_lt hk)
  rw [Nat.zero_add, Nat.add_zero] at hr
  have hd := drop_cons hk
  have hl := runLen_le (z.cps.toList.drop k)
  have hM : (z.cps.toList.drop k).length ≤ z.length := by rw [List.length_drop, ← slen]; omega
  have hcut := cut_at (z := z) (k := k) (n := runLen (z.cps.toList.drop k)) (by rw [List.length_drop] at hl; omega)
  have htk := take_run (z.cps.toList.drop k)
  rw [htk] at hcut
  generalize z.cps.toList[k] = c at ha hd
  generalize z.cps.toList.drop (k + 1) = t at hd
  generalize z.cps.toList.drop k = M at hr hd hl hcut htk hM ⊢
  subst hd
  have e00 : ((0 : Nat) : Int) = 0 := rfl
  rw [e00] at hr
  rw [tok_cons]
  unfold F_law_size B_law_size defF
  cases h1 : sg c with
  | true =>
    simp only [fillSl, List.length_cons, List.length_nil, List.replicate, List.cons_append, List.nil_append, List.getElem?_cons_zero, List.getElem?_cons_succ, List.set_cons_zero, List.set_cons_succ, Nat.reduceAdd, Nat.reduceSub, Nat.reduceLT, seqS, nxS, setS, dropS, retS, iteS, retV, asg, potS, potDivS, appS, extS, unpS, parS, asgPs, asgP, asgD, asgDs, calm, binE, unE, potE, constE, varE, andE, orE, notE, ifE, tupE, lstE, slE, optE, callE, callF, callKF, methE, isiE, argsE, argsOf, datsOf, resV, newT, newL, shq, shf, opF, cF, addV, mulV, ixV, slV, gtK, ltK, leK, geK, subK, addK, mulK, fdivK, modK, powK, eq_int, ne_int, eq_str, ne_str, intK, absK, isiB, Val.dat, Val.items, flat, flatA, isL, Bool.and_true, Bool.true_and, Bool.false_and, Bool.and_false, if_true, if_false, Bool.false_eq_true, Option.map_some, Option.map_none, Bool.not_true, Bool.not_false, decide_true, decide_false, reduceIte, reduceCtorEq, and_self, true_and, and_true, yes_ap, sizeLine_eq, Nat.reduceLeDiff, hz, ha, in_one, mem_sg, h1]
    rfl
  | false =>
    cases h2 : rn c with
    | false =>
      have e0 : runLen (c :: t) = 0 := by rw [runLen_cons, h2]; rfl
      have hv : ((c :: t).takeWhile rn) = [] := by rw [List.takeWhile_cons, h2]; rfl
      rw [hv] at hcut
      rw [e0] at hr hcut
      have hne : decide ((⟨([] : List Nat).toArray⟩ : Str) = Str.ofString "") = true := rfl
      simp only [fillSl, List.length_cons, List.length_nil, List.replicate, List.cons_append, List.nil_append, List.getElem?_cons_zero, List.getElem?_cons_succ, List.set_cons_zero, List.set_cons_succ, Nat.reduceAdd, Nat.reduceSub, Nat.reduceLT, seqS, nxS, setS, dropS, retS, iteS, retV, asg, potS, potDivS, appS, extS, unpS, parS, asgPs, asgP, asgD, asgDs, calm, binE, unE, potE, constE, varE, andE, orE, notE, ifE, tupE, lstE, slE, optE, callE, callF, callKF, methE, isiE, argsE, argsOf, datsOf, resV, newT, newL, shq, shf, opF, cF, addV, mulV, ixV, slV, gtK, ltK, leK, geK, subK, addK, mulK, fdivK, modK, powK, eq_int, ne_int, eq_str, ne_str, intK, absK, isiB, Val.dat, Val.items, flat, flatA, isL, Bool.and_true, Bool.true_and, Bool.false_and, Bool.and_false, if_true, if_false, Bool.false_eq_true, Option.map_some, Option.map_none, Bool.not_true, Bool.not_false, decide_true, decide_false, reduceIte, reduceCtorEq, and_self, true_and, and_true, yes_ap, sizeLine_eq, Nat.reduceLeDiff, hz, ha, in_one, mem_sg, h1, hr, hcut, hne]
      rfl
    | true =>
      have e0 : 0 < runLen (c :: t) := by rw [runLen_cons, h2]; simp
      have hv : (⟨((c :: t).takeWhile rn).toArray⟩ : Str).cps.toList = c :: t.takeWhile rn := by
        show ((c :: t).takeWhile rn) = _
        rw [List.takeWhile_cons, h2]; rfl
      have hvl : (⟨((c :: t).takeWhile rn).toArray⟩ : Str).length = runLen (c :: t) := by rw [slen]; rfl
      have hvl2 : (⟨((c :: t).takeWhile rn).toArray⟩ : Str).length ≤ 16777216 := by rw [hvl]; omega
      have hall : ((c :: t).takeWhile rn).all fg = (fg c && (t.takeWhile rn).all fg) := by rw [List.takeWhile_cons, h2]; rfl
      have hstrip := strip_figs ⟨((c :: t).takeWhile rn).toArray⟩
      rw [hv, show (c :: t.takeWhile rn).all fg = (fg c && (t.takeWhile rn).all fg) from rfl] at hstrip
      rw [hall]
      have hat : atI (⟨((c :: t).takeWhile rn).toArray⟩ : Str).cps.toList 0 = some c := by rw [hv]; exact atI_nat (j := 0) rfl
      have hne : decide ((⟨((c :: t).takeWhile rn).toArray⟩ : Str) = Str.ofString "") = false := by
        rw [decide_eq_false_iff_not]
        intro h
        rw [h] at hv
        cases hv
      generalize (⟨((c :: t).takeWhile rn).toArray⟩ : Str) = v at *
      generalize runLen (c :: t) = n at *
      have hi1 : decide ((n : Int) ≤ 12) = decide (n ≤ 12) := by rw [Bool.eq_iff_iff, decide_eq_true_eq, decide_eq_true_eq]; omega
      have hi2 : decide ((n : Int) ≤ 4096) = decide (n ≤ 4096) := by rw [Bool.eq_iff_iff, decide_eq_true_eq, decide_eq_true_eq]; omega
      cases h3 : lt c with
      | true =>
        have hf : fg c = false := by
          unfold lt at h3
          unfold fg
          simp only [Bool.and_eq_true, decide_eq_true_eq] at h3
          rw [decide_eq_false (p := c ≤ 57) (by omega), Bool.and_false]
        rw [hf] at hstrip ⊢
        by_cases h4 : n ≤ 12
        · by_cases h5 : n ≤ 4096
          · simp only [fillSl, List.length_cons, List.length_nil, List.replicate, List.cons_append, List.nil_append, List.getElem?_cons_zero, List.getElem?_cons_succ, List.set_cons_zero, List.set_cons_succ, Nat.reduceAdd, Nat.reduceSub, Nat.reduceLT, seqS, nxS, setS, dropS, retS, iteS, retV, asg, potS, potDivS, appS, extS, unpS, parS, asgPs, asgP, asgD, asgDs, calm, binE, unE, potE, constE, varE, andE, orE, notE, ifE, tupE, lstE, slE, optE, callE, callF, callKF, methE, isiE, argsE, argsOf, datsOf, resV, newT, newL, shq, shf, opF, cF, addV, mulV, ixV, slV, gtK, ltK, leK, geK, subK, addK, mulK, fdivK, modK, powK, eq_int, ne_int, eq_str, ne_str, intK, absK, isiB, Val.dat, Val.items, flat, flatA, isL, Bool.and_true, Bool.true_and, Bool.false_and, Bool.and_false, if_true, if_false, Bool.false_eq_true, Option.map_some, Option.map_none, Bool.not_true, Bool.not_false, decide_true, decide_false, reduceIte, reduceCtorEq, and_self, true_and, and_true, yes_ap, sizeLine_eq, Nat.reduceLeDiff, hz, ha, in_one, nin_one, mem_sg, mem_fig, h1, hr, hcut, hne, hat, hvl2, hi1, hi2, h4, h5, hf, stripM, hstrip]
          · omega
        · by_cases h5 : n ≤ 4096
          · simp only [fillSl, List.length_cons, List.length_nil, List.replicate, List.cons_append, List.nil_append, List.getElem?_cons_zero, List.getElem?_cons_succ, List.set_cons_zero, List.set_cons_succ, Nat.reduceAdd, Nat.reduceSub, Nat.reduceLT, seqS, nxS, setS, dropS, retS, iteS, retV, asg, potS, potDivS, appS, extS, unpS, parS, asgPs, asgP, asgD, asgDs, calm, binE, unE, potE, constE, varE, andE, orE, notE, ifE, tupE, lstE, slE, optE, callE, callF, callKF, methE, isiE, argsE, argsOf, datsOf, resV, newT, newL, shq, shf, opF, cF, addV, mulV, ixV, slV, gtK, ltK, leK, geK, subK, addK, mulK, fdivK, modK, powK, eq_int, ne_int, eq_str, ne_str, intK, absK, isiB, Val.dat, Val.items, flat, flatA, isL, Bool.and_true, Bool.true_and, Bool.false_and, Bool.and_false, if_true, if_false, Bool.false_eq_true, Option.map_some, Option.map_none, Bool.not_true, Bool.not_false, decide_true, decide_false, reduceIte, reduceCtorEq, and_self, true_and, and_true, yes_ap, sizeLine_eq, Nat.reduceLeDiff, hz, ha, in_one, nin_one, mem_sg, mem_fig, h1, hr, hcut, hne, hat, hvl2, hi1, hi2, h4, h5, hf, stripM, hstrip]
            rfl
          · simp only [fillSl, List.length_cons, List.length_nil, List.replicate, List.cons_append, List.nil_append, List.getElem?_cons_zero, List.getElem?_cons_succ, List.set_cons_zero, List.set_cons_succ, Nat.reduceAdd, Nat.reduceSub, Nat.reduceLT, seqS, nxS, setS, dropS, retS, iteS, retV, asg, potS, potDivS, appS, extS, unpS, parS, asgPs, asgP, asgD, asgDs, calm, binE, unE, potE, constE, varE, andE, orE, notE, ifE, tupE, lstE, slE, optE, callE, callF, callKF, methE, isiE, argsE, argsOf, datsOf, resV, newT, newL, shq, shf, opF, cF, addV, mulV, ixV, slV, gtK, ltK, leK, geK, subK, addK, mulK, fdivK, modK, powK, eq_int, ne_int, eq_str, ne_str, intK, absK, isiB, Val.dat, Val.items, flat, flatA, isL, Bool.and_true, Bool.true_and, Bool.false_and, Bool.and_false, if_true, if_false, Bool.false_eq_true, Option.map_some, Option.map_none, Bool.not_true, Bool.not_false, decide_true, decide_false, reduceIte, reduceCtorEq, and_self, true_and, and_true, yes_ap, sizeLine_eq, Nat.reduceLeDiff, hz, ha, in_one, nin_one, mem_sg, mem_fig, h1, hr, hcut, hne, hat, hvl2, hi1, hi2, h4, h5, hf, stripM, hstrip]
            rfl
      | false =>
        have hf : fg c = true := by
          unfold rn at h2
          rw [h3] at h2
          simpa using h2
        rw [hf] at hstrip ⊢
        by_cases h5 : n ≤ 4096
        · cases h6 : (t.takeWhile rn).all fg with
          | true =>
            rw [h6] at hstrip
            simp only [fillSl, List.length_cons, List.length_nil, List.replicate, List.cons_append, List.nil_append, List.getElem?_cons_zero, List.getElem?_cons_succ, List.set_cons_zero, List.set_cons_succ, Nat.reduceAdd, Nat.reduceSub, Nat.reduceLT, seqS, nxS, setS, dropS, retS, iteS, retV, asg, potS, potDivS, appS, extS, unpS, parS, asgPs, asgP, asgD, asgDs, calm, binE, unE, potE, constE, varE, andE, orE, notE, ifE, tupE, lstE, slE, optE, callE, callF, callKF, methE, isiE, argsE, argsOf, datsOf, resV, newT, newL, shq, shf, opF, cF, addV, mulV, ixV, slV, gtK, ltK, leK, geK, subK, addK, mulK, fdivK, modK, powK, eq_int, ne_int, eq_str, ne_str, intK, absK, isiB, Val.dat, Val.items, flat, flatA, isL, Bool.and_true, Bool.true_and, Bool.false_and, Bool.and_false, if_true, if_false, Bool.false_eq_true, Option.map_some, Option.map_none, Bool.not_true, Bool.not_false, decide_true, decide_false, reduceIte, reduceCtorEq, and_self, true_and, and_true, yes_ap, sizeLine_eq, Nat.reduceLeDiff, hz, ha, in_one, nin_one, mem_sg, mem_fig, h1, hr, hcut, hne, hat, hvl2, hi1, hi2, h5, hf, stripM, hstrip]
          | false =>
            rw [h6] at hstrip
            simp only [fillSl, List.length_cons, List.length_nil, List.replicate, List.cons_append, List.nil_append, List.getElem?_cons_zero, List.getElem?_cons_succ, List.set_cons_zero, List.set_cons_succ, Nat.reduceAdd, Nat.reduceSub, Nat.reduceLT, seqS, nxS, setS, dropS, retS, iteS, retV, asg, potS, potDivS, appS, extS, unpS, parS, asgPs, asgP, asgD, asgDs, calm, binE, unE, potE, constE, varE, andE, orE, notE, ifE, tupE, lstE, slE, optE, callE, callF, callKF, methE, isiE, argsE, argsOf, datsOf, resV, newT, newL, shq, shf, opF, cF, addV, mulV, ixV, slV, gtK, ltK, leK, geK, subK, addK, mulK, fdivK, modK, powK, eq_int, ne_int, eq_str, ne_str, intK, absK, isiB, Val.dat, Val.items, flat, flatA, isL, Bool.and_true, Bool.true_and, Bool.false_and, Bool.and_false, if_true, if_false, Bool.false_eq_true, Option.map_some, Option.map_none, Bool.not_true, Bool.not_false, decide_true, decide_false, reduceIte, reduceCtorEq, and_self, true_and, and_true, yes_ap, sizeLine_eq, Nat.reduceLeDiff, hz, ha, in_one, nin_one, mem_sg, mem_fig, h1, hr, hcut, hne, hat, hvl2, hi1, hi2, h5, hf, stripM, hstrip]
            rfl
        · simp only [fillSl, List.length_cons, List.length_nil, List.replicate, List.cons_append, List.nil_append, List.getElem?_cons_zero, List.getElem?_cons_succ, List.set_cons_zero, List.set_cons_succ, Nat.reduceAdd, Nat.reduceSub, Nat.reduceLT, seqS, nxS, setS, dropS, retS, iteS, retV, asg, potS, potDivS, appS, extS, unpS, parS, asgPs, asgP, asgD, asgDs, calm, binE, unE, potE, constE, varE, andE, orE, notE, ifE, tupE, lstE, slE, optE, callE, callF, callKF, methE, isiE, argsE, argsOf, datsOf, resV, newT, newL, shq, shf, opF, cF, addV, mulV, ixV, slV, gtK, ltK, leK, geK, subK, addK, mulK, fdivK, modK, powK, eq_int, ne_int, eq_str, ne_str, intK, absK, isiB, Val.dat, Val.items, flat, flatA, isL, Bool.and_true, Bool.true_and, Bool.false_and, Bool.and_false, if_true, if_false, Bool.false_eq_true, Option.map_some, Option.map_none, Bool.not_true, Bool.not_false, decide_true, decide_false, reduceIte, reduceCtorEq, and_self, true_and, and_true, yes_ap, sizeLine_eq, Nat.reduceLeDiff, hz, ha, in_one, nin_one, mem_sg, mem_fig, h1, hr, hcut, hne, hat, hvl2, hi1, hi2, h5, hf, stripM, hstrip, false_and]
          rfl
end K11
namespace K11
open PySem PySem.Spec PyProof.Rows L2 Pu
def Tl (tl : List Nat) : Prop := tl = [] ∨ ∃ r, tl = 10 :: r
theorem wsp_tl {tl : List Nat} (h : Tl tl) (ln co : Nat) : wsp tl ln co = wsp tl ln 0 := by
  rcases h with rfl | ⟨r, rfl⟩
  · rw [wsp_nil, wsp_nil]
  · rw [wsp_nl, wsp_nl]
theorem run_tl {tl : List Nat} (h : Tl tl) : ∀ L : List Nat, (L ++ tl).takeWhile rn = L.takeWhile rn
  | [] => by
    rcases h with rfl | ⟨r, rfl⟩
    · rfl
    · rfl
  | c :: t => by
    rw [List.cons_append, List.takeWhile_cons, List.takeWhile_cons, run_tl h t]
theorem runLen_tl {tl : List Nat} (h : Tl tl) (L : List Nat) : runLen (L ++ tl) = runLen L := by
  unfold runLen
  rw [run_tl h]
theorem tok_tl {tl : List Nat} (h : Tl tl) (c : Nat) (t : List Nat) : tok (c :: (t ++ tl)) = tok (c :: t) := by
  have e1 := runLen_tl h (c :: t)
  have e2 := run_tl h (c :: t)
  rw [List.cons_append] at e1 e2
  rw [tok_cons, tok_cons, e1, e2]
theorem dw_tl {tl : List Nat} (h : Tl tl) : ∀ L : List Nat, 10 ∉ L → (L ++ tl).dropWhile (· != 10) = tl
  | [], _ => by
    rcases h with rfl | ⟨r, rfl⟩
    · rfl
    · rfl
  | c :: t, hn => by
    have hc : c ≠ 10 := fun z => hn (by rw [z]; exact List.mem_cons_self ..)
    rw [List.cons_append, List.dropWhile_cons, if_pos (by simpa using hc)]
    exact dw_tl h t fun z => hn (List.mem_cons_of_mem _ z)

theorem line_loop {z l : Str} (hz : l.length ≤ 16777000) (h10 : 10 ∉ l.cps.toList) {tl : List Nat} (htl : Tl tl) (ln : Nat) (p : Pot) : ∀ (m k : Nat) (fs : List PyData) (x : Slot), l.cps.toList.length - k ≤ m → k ≤ l.cps.toList.length → fs.length + (l.cps.toList.length - k) ≤ 16777100 →
    ∃ o, whileS (andE (binE (opF ltK) (varE 4) (callE lenV [(varE 3)])) (binE (opF neK) (binE ixV (varE 3) (varE 4)) (constE (.str "#")))) (seqS (setS 5 (ifE (binE (opF eqK) (binE ixV (varE 3) (varE 4)) (constE (.str " "))) (constE (.int 1)) (callF F_law_size [(varE 3), (varE 4)])))
    (seqS (iteS (binE (opF eqK) (varE 5) (constE (.int 0))) (retS (tupE [(varE 1), (tupE [(varE 2), (varE 4)])])) nxS)
    (seqS (extS 1 (ifE (binE (opF neK) (binE ixV (varE 3) (varE 4)) (constE (.str " "))) (lstE [(tupE [(slE (varE 3) (some (varE 4)) (some (binE addV (varE 4) (varE 5)))), (varE 2), (varE 4)])]) (lstE [])))
    (setS 4 (binE addV (varE 4) (varE 5)))))) [.sh (.str z), .own (.list fs), .sh (.int ln), .sh (.str l), .sh (.int k), x] p = some o ∧
      ((o = .rt (.sh (.tuple [.list (fs ++ (wsp (l.cps.toList.drop k ++ tl) ln k).1), (wsp (l.cps.toList.drop k ++ tl) ln k).2])) p) ∨
        (∃ (fs' : List PyData) (k' : Nat) (x' : Slot), fs'.length ≤ l.cps.toList.length - k ∧ o = .nx [.sh (.str z), .own (.list (fs ++ fs')), .sh (.int ln), .sh (.str l), .sh (.int k'), x'] p ∧ wsp (l.cps.toList.drop k ++ tl) ln k = (fs' ++ (wsp tl ln 0).1, (wsp tl ln 0).2))) := by
  intro m
  induction m with
  | zero =>
    intro k fs x hm hk hf
    have e : k = l.cps.toList.length := by omega
    have hz' : l.length ≤ 16777216 := by omega
    have hc : ¬ ((k : Int) < (l.length : Int)) := by rw [slen]; omega
    rw [whileS_eq]
    simp only [fillSl, List.length_cons, List.length_nil, List.replicate, List.cons_append, List.nil_append, List.getElem?_cons_zero, List.getElem?_cons_succ, List.set_cons_zero, List.set_cons_succ, Nat.reduceAdd, Nat.reduceSub, Nat.reduceLT, seqS, nxS, setS, dropS, retS, iteS, retV, asg, potS, potDivS, appS, extS, unpS, parS, asgPs, asgP, asgD, asgDs, calm, binE, unE, potE, constE, varE, andE, orE, notE, ifE, tupE, lstE, slE, optE, callE, callF, callKF, methE, isiE, argsE, argsOf, datsOf, resV, newT, newL, shq, shf, opF, cF, addV, mulV, ixV, slV, gtK, ltK, leK, geK, subK, addK, mulK, fdivK, modK, powK, eq_int, ne_int, eq_str, ne_str, intK, absK, isiB, Val.dat, Val.items, flat, flatA, isL, Bool.and_true, Bool.true_and, Bool.false_and, Bool.and_false, if_true, if_false, Bool.false_eq_true, Option.map_some, Option.map_none, Bool.not_true, Bool.not_false, decide_true, decide_false, reduceIte, reduceCtorEq, and_self, true_and, and_true, yes_ap, sizeLine_eq, Nat.reduceLeDiff, lenV, hz', hc]
    refine ⟨_, rfl, .inr ⟨[], k, x, Nat.zero_le _, by rw [List.append_nil], ?_⟩⟩
    rw [e, List.drop_length, List.nil_append, List.nil_append, wsp_tl htl]
  | succ m ih =>
    intro k fs x hm hk hf
    have hz' : l.length ≤ 16777216 := by omega
    by_cases hkl : k < l.cps.toList.length
    · have hc : ((k : Int) < (l.length : Int)) := by rw [slen]; omega
      have ha := at_nat hkl
      have htw := law_size hz' hkl p
      have hd := drop_cons hkl
      have hmem : l.cps.toList[k] ∈ l.cps.toList := List.getElem_mem hkl
      rw [whileS_eq, hd]
      rw [hd] at htw
      generalize l.cps.toList[k] = c at ha hd htw hmem ⊢
      have h1 : c ≠ 10 := fun e => h10 (by rw [← e]; exact hmem)
      have e2 : ((k : Int) + 1) = ((k + 1 : Nat) : Int) := rfl
      rw [List.cons_append]
      by_cases h3 : c = 35
      · subst h3
        have hn : 10 ∉ l.cps.toList.drop (k + 1) := fun e => h10 (List.mem_of_mem_drop e)
        refine ⟨.nx [.sh (.str z), .own (.list fs), .sh (.int ln), .sh (.str l), .sh (.int k), x] p, ?_, .inr ⟨[], k, x, Nat.zero_le _, by rw [List.append_nil], ?_⟩⟩
        · simp only [fillSl, List.length_cons, List.length_nil, List.replicate, List.cons_append, List.nil_append, List.getElem?_cons_zero, List.getElem?_cons_succ, List.set_cons_zero, List.set_cons_succ, Nat.reduceAdd, Nat.reduceSub, Nat.reduceLT, seqS, nxS, setS, dropS, retS, iteS, retV, asg, potS, potDivS, appS, extS, unpS, parS, asgPs, asgP, asgD, asgDs, calm, binE, unE, potE, constE, varE, andE, orE, notE, ifE, tupE, lstE, slE, optE, callE, callF, callKF, methE, isiE, argsE, argsOf, datsOf, resV, newT, newL, shq, shf, opF, cF, addV, mulV, ixV, slV, gtK, ltK, leK, geK, subK, addK, mulK, fdivK, modK, powK, eq_int, ne_int, eq_str, ne_str, intK, absK, isiB, Val.dat, Val.items, flat, flatA, isL, Bool.and_true, Bool.true_and, Bool.false_and, Bool.and_false, if_true, if_false, Bool.false_eq_true, Option.map_some, Option.map_none, Bool.not_true, Bool.not_false, decide_true, decide_false, reduceIte, reduceCtorEq, and_self, true_and, and_true, yes_ap, sizeLine_eq, Nat.reduceLeDiff, lenV, hz', hc, ha, ha_eq]
        · rw [wsp_ha, dw_tl htl _ hn, wsp_tl htl, List.nil_append]
      by_cases h2 : c = 32
      · subst h2
        obtain ⟨o, eo, ho⟩ := ih (k + 1) fs (.sh (.int 1)) (by omega) (by omega) (by omega)
        rw [wsp_sp]
        refine ⟨o, ?_, ho.elim .inl fun ⟨fs', k', x', q1, q2⟩ => .inr ⟨fs', k', x', by omega, q2⟩⟩
        have e1 : decide ((1 : Int) = 0) = false := rfl
        have hfl : fs.length + 0 ≤ 16777216 := by omega
        simp only [fillSl, List.length_cons, List.length_nil, List.replicate, List.cons_append, List.nil_append, List.getElem?_cons_zero, List.getElem?_cons_succ, List.set_cons_zero, List.set_cons_succ, Nat.reduceAdd, Nat.reduceSub, Nat.reduceLT, seqS, nxS, setS, dropS, retS, iteS, retV, asg, potS, potDivS, appS, extS, unpS, parS, asgPs, asgP, asgD, asgDs, calm, binE, unE, potE, constE, varE, andE, orE, notE, ifE, tupE, lstE, slE, optE, callE, callF, callKF, methE, isiE, argsE, argsOf, datsOf, resV, newT, newL, shq, shf, opF, cF, addV, mulV, ixV, slV, gtK, ltK, leK, geK, subK, addK, mulK, fdivK, modK, powK, eq_int, ne_int, eq_str, ne_str, intK, absK, isiB, Val.dat, Val.items, flat, flatA, isL, Bool.and_true, Bool.true_and, Bool.false_and, Bool.and_false, if_true, if_false, Bool.false_eq_true, Option.map_some, Option.map_none, Bool.not_true, Bool.not_false, decide_true, decide_false, reduceIte, reduceCtorEq, and_self, true_and, and_true, yes_ap, sizeLine_eq, Nat.reduceLeDiff, lenV, hz', hc, ha, ha_eq, sp_eq, h3, e1, e2, hfl, List.append_nil]
        exact eo
      have hl := tok_le (c :: l.cps.toList.drop (k + 1))
      rw [List.length_cons, List.length_drop] at hl
      have htt := tok_tl htl c (l.cps.toList.drop (k + 1))
      by_cases h4 : tok (c :: l.cps.toList.drop (k + 1)) = 0
      · rw [wsp_bad ln k h1 h2 h3 (by rw [htt]; exact h4)]
        rw [h4] at htw
        refine ⟨_, ?_, .inl rfl⟩
        rw [List.append_nil]
        have e0 : decide (((0 : Nat) : Int) = 0) = true := rfl
        simp only [fillSl, List.length_cons, List.length_nil, List.replicate, List.cons_append, List.nil_append, List.getElem?_cons_zero, List.getElem?_cons_succ, List.set_cons_zero, List.set_cons_succ, Nat.reduceAdd, Nat.reduceSub, Nat.reduceLT, seqS, nxS, setS, dropS, retS, iteS, retV, asg, potS, potDivS, appS, extS, unpS, parS, asgPs, asgP, asgD, asgDs, calm, binE, unE, potE, constE, varE, andE, orE, notE, ifE, tupE, lstE, slE, optE, callE, callF, callKF, methE, isiE, argsE, argsOf, datsOf, resV, newT, newL, shq, shf, opF, cF, addV, mulV, ixV, slV, gtK, ltK, leK, geK, subK, addK, mulK, fdivK, modK, powK, eq_int, ne_int, eq_str, ne_str, intK, absK, isiB, Val.dat, Val.items, flat, flatA, isL, Bool.and_true, Bool.true_and, Bool.false_and, Bool.and_false, if_true, if_false, Bool.false_eq_true, Option.map_some, Option.map_none, Bool.not_true, Bool.not_false, decide_true, decide_false, reduceIte, reduceCtorEq, and_self, true_and, and_true, yes_ap, sizeLine_eq, Nat.reduceLeDiff, lenV, hz', hc, ha, sp_eq, ha_eq, h2, h3, htw, e0]
      · rw [wsp_tok ln k h1 h2 h3 (by rw [htt]; exact h4), htt]
        have hcut := cut_at (z := l) (k := k) (n := tok (c :: l.cps.toList.drop (k + 1))) (by omega)
        rw [hd] at hcut
        have hdr : (c :: (l.cps.toList.drop (k + 1) ++ tl)).drop (tok (c :: l.cps.toList.drop (k + 1))) = l.cps.toList.drop (k + tok (c :: l.cps.toList.drop (k + 1))) ++ tl := by
          rw [← List.cons_append, ← hd, List.drop_append_of_le_length (by rw [hd, List.length_cons, List.length_drop]; exact hl), List.drop_drop]
        have htk : (c :: (l.cps.toList.drop (k + 1) ++ tl)).take (tok (c :: l.cps.toList.drop (k + 1))) = (c :: l.cps.toList.drop (k + 1)).take (tok (c :: l.cps.toList.drop (k + 1))) := by
          rw [← List.cons_append, List.take_append_of_le_length (by rw [List.length_cons, List.length_drop]; omega)]
        rw [hdr, htk]
        generalize tok (c :: l.cps.toList.drop (k + 1)) = n at htw hl h4 hcut ⊢
        generalize (⟨((c :: l.cps.toList.drop (k + 1)).take n).toArray⟩ : Str) = w at hcut ⊢
        obtain ⟨o, eo, ho⟩ := ih (k + n) (fs ++ [.tuple [.str w, .int ln, .int (k : Nat)]]) (.sh (.int n)) (by omega) (by omega) (by rw [List.length_append, List.length_singleton]; omega)
        refine ⟨o, ?_, ?_⟩
        · have hn : ¬ ((n : Int) = 0) := by omega
          have hfl : fs.length + 1 ≤ 16777216 := by omega
          have e3 : ((k : Int) + (n : Int)) = ((k + n : Nat) : Int) := rfl
          simp only [fillSl, List.length_cons, List.length_nil, List.replicate, List.cons_append, List.nil_append, List.getElem?_cons_zero, List.getElem?_cons_succ, List.set_cons_zero, List.set_cons_succ, Nat.reduceAdd, Nat.reduceSub, Nat.reduceLT, seqS, nxS, setS, dropS, retS, iteS, retV, asg, potS, potDivS, appS, extS, unpS, parS, asgPs, asgP, asgD, asgDs, calm, binE, unE, potE, constE, varE, andE, orE, notE, ifE, tupE, lstE, slE, optE, callE, callF, callKF, methE, isiE, argsE, argsOf, datsOf, resV, newT, newL, shq, shf, opF, cF, addV, mulV, ixV, slV, gtK, ltK, leK, geK, subK, addK, mulK, fdivK, modK, powK, eq_int, ne_int, eq_str, ne_str, intK, absK, isiB, Val.dat, Val.items, flat, flatA, isL, Bool.and_true, Bool.true_and, Bool.false_and, Bool.and_false, if_true, if_false, Bool.false_eq_true, Option.map_some, Option.map_none, Bool.not_true, Bool.not_false, decide_true, decide_false, reduceIte, reduceCtorEq, and_self, true_and, and_true, yes_ap, sizeLine_eq, Nat.reduceLeDiff, lenV, hz', hc, ha, sp_eq, ha_eq, h2, h3, htw, hn, hcut, hfl]
          exact eo
        · rcases ho with rfl | ⟨fs', k', x', q1, rfl, q2⟩
          · refine .inl ?_
            rw [List.append_assoc]
            rfl
          · refine .inr ⟨.tuple [.str w, .int ln, .int (k : Nat)] :: fs', k', x', by rw [List.length_cons]; omega, ?_, ?_⟩
            · rw [List.append_assoc]
              rfl
            · rw [q2]
              rfl
    · have e : k = l.cps.toList.length := by omega
      have hc : ¬ ((k : Int) < (l.length : Int)) := by rw [slen]; omega
      rw [whileS_eq]
      simp only [fillSl, List.length_cons, List.length_nil, List.replicate, List.cons_append, List.nil_append, List.getElem?_cons_zero, List.getElem?_cons_succ, List.set_cons_zero, List.set_cons_succ, Nat.reduceAdd, Nat.reduceSub, Nat.reduceLT, seqS, nxS, setS, dropS, retS, iteS, retV, asg, potS, potDivS, appS, extS, unpS, parS, asgPs, asgP, asgD, asgDs, calm, binE, unE, potE, constE, varE, andE, orE, notE, ifE, tupE, lstE, slE, optE, callE, callF, callKF, methE, isiE, argsE, argsOf, datsOf, resV, newT, newL, shq, shf, opF, cF, addV, mulV, ixV, slV, gtK, ltK, leK, geK, subK, addK, mulK, fdivK, modK, powK, eq_int, ne_int, eq_str, ne_str, intK, absK, isiB, Val.dat, Val.items, flat, flatA, isL, Bool.and_true, Bool.true_and, Bool.false_and, Bool.and_false, if_true, if_false, Bool.false_eq_true, Option.map_some, Option.map_none, Bool.not_true, Bool.not_false, decide_true, decide_false, reduceIte, reduceCtorEq, and_self, true_and, and_true, yes_ap, sizeLine_eq, Nat.reduceLeDiff, lenV, hz', hc]
      refine ⟨_, rfl, .inr ⟨[], k, x, Nat.zero_le _, by rw [List.append_nil], ?_⟩⟩
      rw [e, List.drop_length, List.nil_append, List.nil_append, wsp_tl htl]
end K11
namespace K11
open PySem PySem.Spec PyProof.Rows L2 Pu
def jn : List Str → List Nat
  | [] => []
  | [l] => l.cps.toList
  | l :: m :: r => l.cps.toList ++ 10 :: jn (m :: r)
theorem jn_join : ∀ ps : List Str, jn ps = (Str.join ⟨#[10]⟩ ps).cps.toList
  | [] => rfl
  | [l] => rfl
  | l :: m :: r => by
    have ih := jn_join (m :: r)
    have e : (Str.join ⟨#[10]⟩ (l :: m :: r)).cps.toList = l.cps.toList ++ [10] ++ (Str.join ⟨#[10]⟩ (m :: r)).cps.toList := by
      show (l ++ ⟨#[10]⟩ ++ Str.join ⟨#[10]⟩ (m :: r)).cps.toList = _
      rw [Str.cps_append, Str.cps_append, Array.toList_append, Array.toList_append]
    rw [e, ← ih]
    show l.cps.toList ++ 10 :: jn (m :: r) = _
    rw [List.append_assoc]
    rfl
theorem jn_one (l : Str) : jn [l] = l.cps.toList := rfl
theorem jn_two (l m : Str) (r : List Str) : jn (l :: m :: r) = l.cps.toList ++ 10 :: jn (m :: r) := rfl
def enN (ps : List Str) (n : Nat) : List PyData := (ps.zipIdx n).map fun x => .tuple [.int (x.2 : Nat), .str x.1]
theorem enN_cons (l : Str) (r : List Str) (n : Nat) : enN (l :: r) n = .tuple [.int (n : Nat), .str l] :: enN r (n + 1) := by
  simp [enN, List.zipIdx_cons]
theorem enum_strs (ps : List Str) : enumD (ps.map .str) = enN ps 0 := by
  unfold enumD enN
  rw [List.zipIdx_map, List.map_map]
  rfl
theorem lines_loop {z : Str} (p : Pot) : ∀ (ps : List Str) (n : Nat) (fs : List PyData) (a b c d : Slot), (∀ l ∈ ps, 10 ∉ l.cps.toList) → ps ≠ [] → (∀ l ∈ ps, l.length ≤ 16777000) → fs.length + (jn ps).length ≤ 16777100 →
    ∃ o, forL (.tp [.nm 2, .nm 3]) (seqS (setS 4 (constE (.int 0)))
    (whileS (andE (binE (opF ltK) (varE 4) (callE lenV [(varE 3)])) (binE (opF neK) (binE ixV (varE 3) (varE 4)) (constE (.str "#")))) (seqS (setS 5 (ifE (binE (opF eqK) (binE ixV (varE 3) (varE 4)) (constE (.str " "))) (constE (.int 1)) (callF F_law_size [(varE 3), (varE 4)])))
    (seqS (iteS (binE (opF eqK) (varE 5) (constE (.int 0))) (retS (tupE [(varE 1), (tupE [(varE 2), (varE 4)])])) nxS)
    (seqS (extS 1 (ifE (binE (opF neK) (binE ixV (varE 3) (varE 4)) (constE (.str " "))) (lstE [(tupE [(slE (varE 3) (some (varE 4)) (some (binE addV (varE 4) (varE 5)))), (varE 2), (varE 4)])]) (lstE [])))
    (setS 4 (binE addV (varE 4) (varE 5)))))))) (enN ps n) [.sh (.str z), .own (.list fs), a, b, c, d] p = some o ∧
      ((o = .rt (.sh (.tuple [.list (fs ++ (wsp (jn ps) n 0).1), (wsp (jn ps) n 0).2])) p) ∨
        ((wsp (jn ps) n 0).2 = .none ∧ ∃ a' b' c' d', o = .nx [.sh (.str z), .own (.list (fs ++ (wsp (jn ps) n 0).1)), a', b', c', d'] p))
  | [], _, _, _, _, _, _, _, h, _, _ => absurd rfl h
  | [l], n, fs, a, b, c, d, h10, _, hz, hf => by
    have hf' : fs.length + l.cps.toList.length ≤ 16777100 := hf
    obtain ⟨o, eo, ho⟩ := line_loop (z := z) (hz l (List.mem_cons_self ..)) (h10 l (List.mem_cons_self ..)) (tl := []) (.inl rfl) n p l.cps.toList.length 0 fs d (by omega) (by omega) (by omega)
    have e00 : ((0 : Nat) : Int) = 0 := rfl
    rw [e00] at eo
    rw [List.drop_zero, List.append_nil] at ho
    rw [enN_cons]
    rw [jn_one]
    rcases ho with rfl | ⟨fs', k', x', q1, rfl, q2⟩
    · refine ⟨_, ?_, .inl rfl⟩
      unfold forL
      simp only [fillSl, List.length_cons, List.length_nil, List.replicate, List.cons_append, List.nil_append, List.getElem?_cons_zero, List.getElem?_cons_succ, List.set_cons_zero, List.set_cons_succ, Nat.reduceAdd, Nat.reduceSub, Nat.reduceLT, seqS, nxS, setS, dropS, retS, iteS, retV, asg, potS, potDivS, appS, extS, unpS, parS, asgPs, asgP, asgD, asgDs, calm, binE, unE, potE, constE, varE, andE, orE, notE, ifE, tupE, lstE, slE, optE, callE, callF, callKF, methE, isiE, argsE, argsOf, datsOf, resV, newT, newL, shq, shf, opF, cF, addV, mulV, ixV, slV, gtK, ltK, leK, geK, subK, addK, mulK, fdivK, modK, powK, eq_int, ne_int, eq_str, ne_str, intK, absK, isiB, Val.dat, Val.items, flat, flatA, isL, Bool.and_true, Bool.true_and, Bool.false_and, Bool.and_false, if_true, if_false, Bool.false_eq_true, Option.map_some, Option.map_none, Bool.not_true, Bool.not_false, decide_true, decide_false, reduceIte, reduceCtorEq, and_self, true_and, and_true, yes_ap, sizeLine_eq, Nat.reduceLeDiff, eo]
    · refine ⟨.nx [.sh (.str z), .own (.list (fs ++ fs')), .sh (.int n), .sh (.str l), .sh (.int k'), x'] p, ?_, .inr ?_⟩
      · unfold forL
        simp only [fillSl, List.length_cons, List.length_nil, List.replicate, List.cons_append, List.nil_append, List.getElem?_cons_zero, List.getElem?_cons_succ, List.set_cons_zero, List.set_cons_succ, Nat.reduceAdd, Nat.reduceSub, Nat.reduceLT, seqS, nxS, setS, dropS, retS, iteS, retV, asg, potS, potDivS, appS, extS, unpS, parS, asgPs, asgP, asgD, asgDs, calm, binE, unE, potE, constE, varE, andE, orE, notE, ifE, tupE, lstE, slE, optE, callE, callF, callKF, methE, isiE, argsE, argsOf, datsOf, resV, newT, newL, shq, shf, opF, cF, addV, mulV, ixV, slV, gtK, ltK, leK, geK, subK, addK, mulK, fdivK, modK, powK, eq_int, ne_int, eq_str, ne_str, intK, absK, isiB, Val.dat, Val.items, flat, flatA, isL, Bool.and_true, Bool.true_and, Bool.false_and, Bool.and_false, if_true, if_false, Bool.false_eq_true, Option.map_some, Option.map_none, Bool.not_true, Bool.not_false, decide_true, decide_false, reduceIte, reduceCtorEq, and_self, true_and, and_true, yes_ap, sizeLine_eq, Nat.reduceLeDiff, eo]
        rfl
      · rw [q2, wsp_nil, List.append_nil]
        exact ⟨rfl, _, _, _, _, rfl⟩
  | l :: l2 :: r, n, fs, a, b, c, d, h10, _, hz, hf => by
    have hj : (jn (l :: l2 :: r)).length = l.cps.toList.length + ((jn (l2 :: r)).length + 1) := by
      show (l.cps.toList ++ 10 :: jn (l2 :: r)).length = _
      rw [List.length_append, List.length_cons]
    rw [hj] at hf
    obtain ⟨o, eo, ho⟩ := line_loop (z := z) (hz l (List.mem_cons_self ..)) (h10 l (List.mem_cons_self ..)) (tl := 10 :: jn (l2 :: r)) (.inr ⟨_, rfl⟩) n p l.cps.toList.length 0 fs d (by omega) (by omega) (by omega)
    have e00 : ((0 : Nat) : Int) = 0 := rfl
    rw [e00] at eo
    rw [List.drop_zero] at ho
    rw [enN_cons]
    rw [jn_two]
    rcases ho with rfl | ⟨fs', k', x', q1, rfl, q2⟩
    · refine ⟨_, ?_, .inl rfl⟩
      unfold forL
      simp only [fillSl, List.length_cons, List.length_nil, List.replicate, List.cons_append, List.nil_append, List.getElem?_cons_zero, List.getElem?_cons_succ, List.set_cons_zero, List.set_cons_succ, Nat.reduceAdd, Nat.reduceSub, Nat.reduceLT, seqS, nxS, setS, dropS, retS, iteS, retV, asg, potS, potDivS, appS, extS, unpS, parS, asgPs, asgP, asgD, asgDs, calm, binE, unE, potE, constE, varE, andE, orE, notE, ifE, tupE, lstE, slE, optE, callE, callF, callKF, methE, isiE, argsE, argsOf, datsOf, resV, newT, newL, shq, shf, opF, cF, addV, mulV, ixV, slV, gtK, ltK, leK, geK, subK, addK, mulK, fdivK, modK, powK, eq_int, ne_int, eq_str, ne_str, intK, absK, isiB, Val.dat, Val.items, flat, flatA, isL, Bool.and_true, Bool.true_and, Bool.false_and, Bool.and_false, if_true, if_false, Bool.false_eq_true, Option.map_some, Option.map_none, Bool.not_true, Bool.not_false, decide_true, decide_false, reduceIte, reduceCtorEq, and_self, true_and, and_true, yes_ap, sizeLine_eq, Nat.reduceLeDiff, eo]
    · obtain ⟨o, eo2, ho2⟩ := lines_loop (z := z) p (l2 :: r) (n + 1) (fs ++ fs') (.sh (.int n)) (.sh (.str l)) (.sh (.int k')) x' (fun x m => h10 x (List.mem_cons_of_mem _ m)) (List.cons_ne_nil _ _) (fun x m => hz x (List.mem_cons_of_mem _ m)) (by rw [List.length_append]; omega)
      refine ⟨o, ?_, ?_⟩
      · unfold forL
        simp only [fillSl, List.length_cons, List.length_nil, List.replicate, List.cons_append, List.nil_append, List.getElem?_cons_zero, List.getElem?_cons_succ, List.set_cons_zero, List.set_cons_succ, Nat.reduceAdd, Nat.reduceSub, Nat.reduceLT, seqS, nxS, setS, dropS, retS, iteS, retV, asg, potS, potDivS, appS, extS, unpS, parS, asgPs, asgP, asgD, asgDs, calm, binE, unE, potE, constE, varE, andE, orE, notE, ifE, tupE, lstE, slE, optE, callE, callF, callKF, methE, isiE, argsE, argsOf, datsOf, resV, newT, newL, shq, shf, opF, cF, addV, mulV, ixV, slV, gtK, ltK, leK, geK, subK, addK, mulK, fdivK, modK, powK, eq_int, ne_int, eq_str, ne_str, intK, absK, isiB, Val.dat, Val.items, flat, flatA, isL, Bool.and_true, Bool.true_and, Bool.false_and, Bool.and_false, if_true, if_false, Bool.false_eq_true, Option.map_some, Option.map_none, Bool.not_true, Bool.not_false, decide_true, decide_false, reduceIte, reduceCtorEq, and_self, true_and, and_true, yes_ap, sizeLine_eq, Nat.reduceLeDiff, eo]
        exact eo2
      · rw [q2, wsp_nl]
        dsimp only
        rw [← List.append_assoc]
        exact ho2
theorem law_words {z : Str} (hz : z.length ≤ 16777000) (p : Pot) : F_law_words [.sh (.str z)] p = some (.sh (.tuple [.list (wsp z.cps.toList 0 0).1, (wsp z.cps.toList 0 0).2]), p) := by
  have hs := slen z
  have e1 : Str.ofString "\n" = (⟨#[10]⟩ : Str) := rfl
  have hj := StrLaws.join_split z ⟨#[10]⟩
  have hf := StrLaws.split_free z 10
  have hn : Txt.split z ⟨#[10]⟩ ≠ [] := fun h => by
    have := PyProof.Rows.split_pos z ⟨#[10]⟩
    rw [h] at this
    exact absurd this (by decide)
  have hle : ∀ l ∈ Txt.split z ⟨#[10]⟩, l.length ≤ 16777000 := fun l m => Nat.le_trans (PyProof.Rows.part_short m) hz
  have hjn : jn (Txt.split z ⟨#[10]⟩) = z.cps.toList := by rw [jn_join, hj]
  obtain ⟨o, eo, ho⟩ := lines_loop (z := z) p (Txt.split z ⟨#[10]⟩) 0 [] .un .un .un .un hf hn hle (by rw [hjn, List.length_nil]; omega)
  rw [hjn, List.nil_append] at ho
  rw [← enum_strs] at eo
  have hq : ((⟨#[10]⟩ : Str).length == 0) = false ∧ z.length + 2 ≤ 16777216 := ⟨rfl, by omega⟩
  unfold F_law_words B_law_words defF
  rw [e1]
  rcases ho with rfl | ⟨hw, a, b, c, d, rfl⟩
  · simp only [fillSl, List.length_cons, List.length_nil, List.replicate, List.cons_append, List.nil_append, List.getElem?_cons_zero, List.getElem?_cons_succ, List.set_cons_zero, List.set_cons_succ, Nat.reduceAdd, Nat.reduceSub, Nat.reduceLT, seqS, nxS, setS, dropS, retS, iteS, retV, asg, potS, potDivS, appS, extS, unpS, parS, asgPs, asgP, asgD, asgDs, calm, binE, unE, potE, constE, varE, andE, orE, notE, ifE, tupE, lstE, slE, optE, callE, callF, callKF, methE, isiE, argsE, argsOf, datsOf, resV, newT, newL, shq, shf, opF, cF, addV, mulV, ixV, slV, gtK, ltK, leK, geK, subK, addK, mulK, fdivK, modK, powK, eq_int, ne_int, eq_str, ne_str, intK, absK, isiB, Val.dat, Val.items, flat, flatA, isL, Bool.and_true, Bool.true_and, Bool.false_and, Bool.and_false, if_true, if_false, Bool.false_eq_true, Option.map_some, Option.map_none, Bool.not_true, Bool.not_false, decide_true, decide_false, reduceIte, reduceCtorEq, and_self, true_and, and_true, yes_ap, sizeLine_eq, Nat.reduceLeDiff, forS, enumI, splitM, hq, eo]
  · simp only [fillSl, List.length_cons, List.length_nil, List.replicate, List.cons_append, List.nil_append, List.getElem?_cons_zero, List.getElem?_cons_succ, List.set_cons_zero, List.set_cons_succ, Nat.reduceAdd, Nat.reduceSub, Nat.reduceLT, seqS, nxS, setS, dropS, retS, iteS, retV, asg, potS, potDivS, appS, extS, unpS, parS, asgPs, asgP, asgD, asgDs, calm, binE, unE, potE, constE, varE, andE, orE, notE, ifE, tupE, lstE, slE, optE, callE, callF, callKF, methE, isiE, argsE, argsOf, datsOf, resV, newT, newL, shq, shf, opF, cF, addV, mulV, ixV, slV, gtK, ltK, leK, geK, subK, addK, mulK, fdivK, modK, powK, eq_int, ne_int, eq_str, ne_str, intK, absK, isiB, Val.dat, Val.items, flat, flatA, isL, Bool.and_true, Bool.true_and, Bool.false_and, Bool.and_false, if_true, if_false, Bool.false_eq_true, Option.map_some, Option.map_none, Bool.not_true, Bool.not_false, decide_true, decide_false, reduceIte, reduceCtorEq, and_self, true_and, and_true, yes_ap, sizeLine_eq, Nat.reduceLeDiff, forS, enumI, splitM, hq, eo, hw]
end K11
namespace K11
open PySem PySem.Spec PyProof.Rows L2 Pu
theorem sg_lt {c : Nat} (h : sg c = true) : c < 128 ∧ rn c = false := by
  unfold sg at h
  rw [List.contains_iff_mem] at h
  simp only [List.mem_cons, List.not_mem_nil, or_false] at h
  rcases h with rfl | rfl | rfl | rfl | rfl | rfl | rfl | rfl | rfl | rfl | rfl <;> exact ⟨by decide, by decide⟩
theorem rn_lt {c : Nat} (h : rn c = true) : c < 128 := by
  unfold rn lt fg at h
  simp only [Bool.or_eq_true, Bool.and_eq_true, decide_eq_true_eq] at h
  omega
theorem rn_sg {c : Nat} (h : rn c = true) : sg c = false := by
  cases e : sg c with
  | false => rfl
  | true => rw [(sg_lt e).2] at h; cases h
theorem tw_all {q : Nat → Bool} : ∀ (L : List Nat), ∀ d ∈ L.takeWhile q, q d = true
  | [], d, h => nomatch h
  | c :: t, d, h => by
    rw [List.takeWhile_cons] at h
    split at h
    · rcases List.mem_cons.mp h with rfl | h
      · assumption
      · exact tw_all t d h
    · exact nomatch h
theorem tok_kind (c : Nat) (t : List Nat) (h : tok (c :: t) ≠ 0) : (sg c = true ∧ tok (c :: t) = 1) ∨ (rn c = true ∧ tok (c :: t) = runLen (c :: t)) := by
  rw [tok_cons] at h ⊢
  cases h1 : sg c with
  | true => exact .inl ⟨rfl, rfl⟩
  | false =>
    rw [h1] at h
    simp only [Bool.false_eq_true, if_false] at h ⊢
    cases h2 : rn c with
    | false => rw [h2] at h; exact absurd rfl h
    | true =>
      rw [h2] at h
      simp only [reduceCtorEq, if_false] at h ⊢
      refine .inr ⟨trivial, ?_⟩
      split
      · split
        · rfl
        · rename_i a b; rw [if_pos a, if_neg b] at h; exact absurd rfl h
      · split
        · rfl
        · rename_i a b; rw [if_neg a, if_neg b] at h; exact absurd rfl h
theorem tok_chars (c : Nat) (t : List Nat) : ∀ d ∈ (c :: t).take (tok (c :: t)), d < 128 := by
  intro d hd
  by_cases h : tok (c :: t) = 0
  · rw [h] at hd; exact nomatch hd
  rcases tok_kind c t h with ⟨h1, h2⟩ | ⟨h1, h2⟩
  · rw [h2] at hd
    have : d = c := by simpa using hd
    rw [this]
    exact (sg_lt h1).1
  · rw [h2, take_run] at hd
    exact rn_lt (tw_all _ d hd)
theorem T_cons (b : Bool) (c : Nat) (t : List Nat) : T b (c :: t) = (if sg c = true then 1 else if rn c = true then (if b = true then 0 else 1) else 0) + T (rn c) t := rfl
theorem T_ge : ∀ L : List Nat, T false L ≤ T true L + 1
  | [] => Nat.zero_le _
  | c :: t => by
    rw [T_cons, T_cons]
    split
    · omega
    · split
      · simp
        omega
      · omega
theorem T_tail (c : Nat) (t : List Nat) : T false t ≤ T false (c :: t) := by
  rw [T_cons]
  cases h : rn c with
  | true =>
    have := T_ge t
    rw [rn_sg h]
    simp only [Bool.false_eq_true, if_false, if_true]
    omega
  | false => omega
theorem T_drop : ∀ (n : Nat) (L : List Nat), T false (L.drop n) ≤ T false L
  | 0, _ => Nat.le_refl _
  | n + 1, [] => Nat.le_refl _
  | n + 1, c :: t => by
    rw [List.drop_succ_cons]
    exact Nat.le_trans (T_drop n t) (T_tail c t)
theorem T_rundrop : ∀ t : List Nat, T true t = T false (t.drop (runLen t))
  | [] => rfl
  | c :: t => by
    rw [runLen_cons]
    cases h : rn c with
    | true =>
      rw [if_pos rfl, List.drop_succ_cons, T_cons, h, rn_sg h, T_rundrop t]
      simp
    | false =>
      rw [if_neg (by decide), List.drop_zero, T_cons, T_cons, h]
      simp
theorem T_tok (c : Nat) (t : List Nat) (h : tok (c :: t) ≠ 0) : 1 + T false ((c :: t).drop (tok (c :: t))) ≤ T false (c :: t) := by
  rcases tok_kind c t h with ⟨h1, h2⟩ | ⟨h1, h2⟩
  · rw [h2, T_cons, h1, (sg_lt h1).2]
    simp
  · rw [h2, runLen_cons, h1, if_pos rfl, List.drop_succ_cons, T_cons, h1, rn_sg h1, T_rundrop t]
    simp
structure Gd (ws : List PyData) (n t : Nat) : Prop where
  len : ws.length ≤ t
  wt : PyData.weightAll ws ≤ n + 44 * ws.length
  lv : PyData.leavesShortAll 8 ws = true
  sh : PyData.showableAll ws = true
  hd : PyData.hasDictAll ws = false
  dp : PyData.depthAll ws ≤ 1
structure Ge (e : PyData) : Prop where
  wt : e.weight ≤ 42
  lv : e.leavesShort 8 = true
  sh : e.showable = true
  hd : e.hasDict = false
  dp : e.depth ≤ 1
  fm : e = .none ∨ ∃ xs, e = .tuple xs
theorem int_ok {n : Nat} (h : n < 1000000) : (PyData.int (n : Int)).weight ≤ 20 ∧ (PyData.int (n : Int)).leavesShort 8 = true ∧ (PyData.int (n : Int)).showable = true := by
  have hl : n.log2 ≤ 19 := by
    by_cases h0 : n = 0
    · rw [h0]; decide
    · have := (Nat.log2_lt h0).mpr (show n < 2 ^ 20 from Nat.lt_of_lt_of_le h (by decide))
      omega
  have hna : ((n : Int)).natAbs = n := Int.natAbs_natCast n
  refine ⟨?_, ?_, ?_⟩
  · simp only [PyData.weight, hna]
    split <;> omega
  · simp only [PyData.leavesShort, PyData.shown]
    refine decide_eq_true ?_
    exact PyProof.Rows.toString_length_le (v := (n : Int)) (by omega) (k := 8) (by decide) (by omega)
  · simp only [PyData.showable, hna, decide_eq_true_eq]
    omega
theorem good : ∀ (m : Nat) (L : List Nat) (ln co : Nat), L.length ≤ m → ln + L.length < 1000000 → co + L.length < 1000000 → Gd (wsp L ln co).1 L.length (T false L) ∧ Ge (wsp L ln co).2 := by
  have gn : ∀ n t, Gd [] n t := fun n t => ⟨Nat.zero_le _, Nat.zero_le _, rfl, rfl, rfl, Nat.zero_le _⟩
  have en : Ge .none := ⟨by decide, rfl, rfl, rfl, by decide, .inl rfl⟩
  have weak : ∀ {ws : List PyData} {n t n' t' : Nat}, Gd ws n t → n ≤ n' → t ≤ t' → Gd ws n' t' := fun g a b => ⟨Nat.le_trans g.len b, Nat.le_trans g.wt (by omega), g.lv, g.sh, g.hd, g.dp⟩
  intro m
  induction m with
  | zero =>
    intro L ln co hm _ _
    have : L = [] := List.length_eq_zero_iff.mp (by omega)
    subst this
    rw [wsp_nil]
    exact ⟨gn _ _, en⟩
  | succ m ih =>
    intro L ln co hm h1 h2
    cases L with
    | nil => rw [wsp_nil]; exact ⟨gn _ _, en⟩
    | cons c t =>
      rw [List.length_cons] at hm h1 h2 ⊢
      by_cases c1 : c = 10
      · subst c1
        rw [wsp_nl]
        obtain ⟨g, e⟩ := ih t (ln + 1) 0 (by omega) (by omega) (by omega)
        exact ⟨weak g (by omega) (T_tail 10 t), e⟩
      by_cases c2 : c = 32
      · subst c2
        rw [wsp_sp]
        obtain ⟨g, e⟩ := ih t ln (co + 1) (by omega) (by omega) (by omega)
        exact ⟨weak g (by omega) (T_tail 32 t), e⟩
      by_cases c3 : c = 35
      · subst c3
        have hl : (t.takeWhile (· != 10)).length ≤ t.length := (List.takeWhile_prefix _).length_le
        rw [wsp_ha, dropW]
        generalize (t.takeWhile (· != 10)).length = n at hl ⊢
        obtain ⟨g, e⟩ := ih (t.drop n) ln (co + 1 + n) (by rw [List.length_drop]; omega) (by rw [List.length_drop]; omega) (by rw [List.length_drop]; omega)
        rw [List.length_drop] at g
        exact ⟨weak g (by omega) (Nat.le_trans (T_drop n t) (T_tail 35 t)), e⟩
      obtain ⟨a1, a2, a3⟩ := int_ok (n := ln) (by omega)
      obtain ⟨b1, b2, b3⟩ := int_ok (n := co) (by omega)
      by_cases h : tok (c :: t) = 0
      · rw [wsp_bad ln co c1 c2 c3 h]
        refine ⟨gn _ _, ⟨?_, ?_, ?_, rfl, ?_, .inr ⟨_, rfl⟩⟩⟩
        · simp only [PyData.weight, PyData.weightAll] at a1 b1 ⊢
          omega
        · simp only [PyData.leavesShort, PyData.leavesShortAll] at a2 b2 ⊢
          rw [a2, b2]; rfl
        · simp only [PyData.showable, PyData.showableAll] at a3 b3 ⊢
          rw [a3, b3]; rfl
        · simp only [PyData.depth, PyData.depthAll]
          decide
      · rw [wsp_tok ln co c1 c2 c3 h]
        have ht := T_tok c t h
        have hc := tok_chars c t
        have hle := tok_le (c :: t)
        rw [List.length_cons] at hle
        generalize tok (c :: t) = n at h ht hc hle ⊢
        obtain ⟨g, e⟩ := ih ((c :: t).drop n) ln (co + n) (by rw [List.length_drop, List.length_cons]; omega) (by rw [List.length_drop, List.length_cons]; omega) (by rw [List.length_drop, List.length_cons]; omega)
        rw [List.length_drop, List.length_cons] at g
        refine ⟨⟨?_, ?_, ?_, ?_, ?_, ?_⟩, e⟩
        · have := g.len
          rw [List.length_cons]
          omega
        · have := g.wt
          have hw : (((c :: t).take n).toArray).size = n := by simp; omega
          have e1 : PyData.weight (.str ⟨((c :: t).take n).toArray⟩) = n := by
            simp only [PyData.weight]
            exact hw
          have e2 : ∀ x y z : PyData, PyData.weight (.tuple [x, y, z]) = x.weight + 1 + (y.weight + 1 + (z.weight + 1 + 0)) := fun x y z => by simp only [PyData.weight, PyData.weightAll]
          have e3 : ∀ (x : PyData) (xs : List PyData), PyData.weightAll (x :: xs) = x.weight + 1 + PyData.weightAll xs := fun x xs => by simp only [PyData.weightAll]
          dsimp only
          rw [List.length_cons, e3, e2, e1]
          omega
        · have e1 : ∀ (x : PyData) (xs : List PyData), PyData.leavesShortAll 8 (x :: xs) = (x.leavesShort 8 && PyData.leavesShortAll 8 xs) := fun x xs => by simp only [PyData.leavesShortAll]
          have e2 : ∀ x y z : PyData, PyData.leavesShort 8 (.tuple [x, y, z]) = (x.leavesShort 8 && (y.leavesShort 8 && (z.leavesShort 8 && true))) := fun x y z => by simp only [PyData.leavesShort, PyData.leavesShortAll]
          have e3 : PyData.leavesShort 8 (.str ⟨((c :: t).take n).toArray⟩) = true := by
            simp only [PyData.leavesShort, List.all_eq_true, decide_eq_true_eq]
            exact fun d hd => Nat.lt_trans (hc d (by simpa using hd)) (by decide)
          dsimp only
          rw [e1, e2, e3, a2, b2, g.lv]
          rfl
        · have e1 : ∀ (x : PyData) (xs : List PyData), PyData.showableAll (x :: xs) = (x.showable && PyData.showableAll xs) := fun x xs => by simp only [PyData.showableAll]
          have e2 : ∀ x y z : PyData, PyData.showable (.tuple [x, y, z]) = (x.showable && (y.showable && (z.showable && true))) := fun x y z => by simp only [PyData.showable, PyData.showableAll]
          have e3 : ∀ z : Str, PyData.showable (.str z) = true := fun z => by simp only [PyData.showable]
          dsimp only
          rw [e1, e2, e3, a3, b3, g.sh]
          rfl
        · have e1 : ∀ (x : PyData) (xs : List PyData), PyData.hasDictAll (x :: xs) = (x.hasDict || PyData.hasDictAll xs) := fun x xs => by simp only [PyData.hasDictAll]
          dsimp only
          rw [e1, g.hd]
          rfl
        · have e1 : ∀ (x : PyData) (xs : List PyData), PyData.depthAll (x :: xs) = max x.depth (PyData.depthAll xs) := fun x xs => by simp only [PyData.depthAll]
          dsimp only
          rw [e1]
          exact Nat.max_le.mpr ⟨by simp only [PyData.depth, PyData.depthAll]; decide, g.dp⟩
end K11
namespace K11
open PySem PySem.Spec PyProof.Rows L2 Pu
theorem rep_ok {ws vs : List PyData} {e : PyData} {n t n' t' : Nat} (g : Gd ws n t) (g' : Gd vs n' t') (h : Ge e) (hn : n ≤ 60000) (ht : t ≤ 1000) (hn' : n' ≤ 60000) (ht' : t' ≤ 1000) :
    reprOk (.list [.list ws, .list vs, e, e]) ∧ reprOk (.list [.list ws, .list vs, e]) := by
  have a1 := g.len
  have a2 := g.wt
  have b1 := g'.len
  have b2 := g'.wt
  have c1 := h.wt
  have hp : (2 : Nat) ^ 20 = 1048576 := by decide
  constructor
  · refine ⟨?_, ?_, ?_, PyData.shown_fits (B := 8) (by decide) (by decide) ?_ ?_⟩
    · simp only [PyData.hasDict, PyData.hasDictAll, g.hd, g'.hd, h.hd]; rfl
    · simp only [PyData.showable, PyData.showableAll, g.sh, g'.sh, h.sh]; rfl
    · have := g.dp
      have := g'.dp
      have := h.dp
      simp only [PyData.depth, PyData.depthAll]
      omega
    · simp only [PyData.leavesShort, PyData.leavesShortAll, g.lv, g'.lv, h.lv]; rfl
    · simp only [PyData.weight, PyData.weightAll]
      omega
  · refine ⟨?_, ?_, ?_, PyData.shown_fits (B := 8) (by decide) (by decide) ?_ ?_⟩
    · simp only [PyData.hasDict, PyData.hasDictAll, g.hd, g'.hd, h.hd]; rfl
    · simp only [PyData.showable, PyData.showableAll, g.sh, g'.sh, h.sh]; rfl
    · have := g.dp
      have := g'.dp
      have := h.dp
      simp only [PyData.depth, PyData.depthAll]
      omega
    · simp only [PyData.leavesShort, PyData.leavesShortAll, g.lv, g'.lv, h.lv]; rfl
    · simp only [PyData.weight, PyData.weightAll]
      omega
theorem resS {e : PyData} (h : e = .none ∨ ∃ xs, e = .tuple xs) (as : List Slot) : resV true as (.sh e) = .sh e := by
  rcases h with rfl | ⟨xs, rfl⟩
  · rfl
  · unfold resV
    simp only [flat, isL, Bool.and_false, Bool.false_eq_true, if_false]
    rfl
def isNx (o : Option Out) : Prop := ∃ t1 t2 t3 t4 t5 t6 t7 t8 t9 p', o = some (.nx [.pot, t1, t2, t3, t4, t5, t6, t7, t8, t9] p')
theorem turn (p : Pot) (s1 s2 s3 s4 s5 s6 s7 s8 s9 : Slot) : isNx ((seqS (setS 2 (lcE (.nm 9) (rng1J (callF F_law_draw [(varE 0), (constE (.int 40))])) yesE (callF F_law_piece [(varE 0)]) [9]))
    (seqS (setS 3 (methE joinM (callF F_law_pick [(varE 0), (lstE [(constE (.str "")), (constE (.str " ")), (constE (.str " "))])]) [(varE 2)]))
    (iteS (binE (opF ltK) (callE lenV [(varE 3)]) (constE (.int 59000))) (seqS (unpS [(.nm 4), (.nm 5)] (callF F_law_words [(varE 3)]))
    (seqS (setS 6 (callF F_text_words [(varE 3)]))
    (seqS (iteS (binE (opF neK) (callE (cF reprK) [(lstE [(varE 6), (callKF F_text_words [0] [(varE 3)]), (callF F_wrong_sign [(varE 3)]), (callKF F_wrong_sign [0] [(varE 3)])])]) (callE (cF reprK) [(lstE [(varE 4), (varE 4), (varE 5), (varE 5)])])) (retS (constE (.bool false))) nxS)
    (seqS (appS 6 (constE .none))
    (seqS (unpS [(.nm 7), (.nm 8)] (callF F_law_words [(binE addV (varE 3) (constE (.str "\n0 x")))]))
    (iteS (binE (opF neK) (callE (cF reprK) [(lstE [(callF F_text_words [(varE 3)]), (callF F_text_words [(binE addV (varE 3) (constE (.str "\n0 x")))]), (callF F_wrong_sign [(binE addV (varE 3) (constE (.str "\n0 x")))])])]) (callE (cF reprK) [(lstE [(varE 4), (varE 7), (varE 8)])])) (retS (constE (.bool false))) nxS)))))) nxS))) [.pot, s1, s2, s3, s4, s5, s6, s7, s8, s9] p) := by
  obtain ⟨d, p1, e1, d0, d1⟩ := draw p 40 (by decide) (by decide)
  have hr : (-(2 ^ 62) ≤ d ∧ d < 2 ^ 62) := ⟨by omega, by omega⟩
  obtain ⟨es, p2, e2, hl, hes⟩ := compL_all (t := .nm 9) (fe := callF F_law_piece [varE 0]) (sl := [.pot, s1, s2, s3, s4, s5, s6, s7, s8, .un]) (C := fun e => ∃ z : Str, e = .str z ∧ (z.length ≤ 9001 ∧ T false z.cps.toList ≤ 14)) (rangeD 0 d.toNat)
    (fun d _ => ⟨_, rfl, fun p => by
      obtain ⟨z, p', e, h⟩ := piece p
      refine ⟨.sh (.str z), p', .str z, ?_, rfl, _, rfl, h⟩
      simp only [fillSl, List.length_cons, List.length_nil, List.replicate, List.cons_append, List.nil_append, List.getElem?_cons_zero, List.getElem?_cons_succ, List.set_cons_zero, List.set_cons_succ, Nat.reduceAdd, Nat.reduceSub, Nat.reduceLT, seqS, nxS, setS, dropS, retS, iteS, retV, asg, potS, potDivS, appS, extS, unpS, parS, asgPs, asgP, asgD, asgDs, calm, binE, unE, potE, constE, varE, andE, orE, notE, ifE, tupE, lstE, slE, optE, callE, callF, callKF, methE, isiE, argsE, argsOf, datsOf, resV, newT, newL, shq, shf, opF, cF, addV, mulV, ixV, slV, gtK, ltK, leK, geK, subK, addK, mulK, fdivK, modK, powK, eq_int, ne_int, eq_str, ne_str, intK, absK, isiB, Val.dat, Val.items, flat, flatA, isL, Bool.and_true, Bool.true_and, Bool.false_and, Bool.and_false, if_true, if_false, Bool.false_eq_true, Option.map_some, Option.map_none, Bool.not_true, Bool.not_false, decide_true, decide_false, reduceIte, reduceCtorEq, and_self, true_and, and_true, yes_ap, sizeLine_eq, Nat.reduceLeDiff, e]⟩) p1
  obtain ⟨zs, rfl, hzl, hz⟩ := strs_of hes
  have hl2 : zs.length ≤ 39 := by
    rw [hzl, hl]
    simp only [rangeD, List.length_map, List.length_range]
    omega
  have lz : (zs.map PyData.str).length ≤ 16777216 := by rw [List.length_map]; omega
  obtain ⟨q, hq, p3, e3⟩ := pick p2 [.str "", .str " ", .str " "] (by decide) (by decide) (by decide)
  obtain ⟨sep, rfl, hs1, hs2⟩ : ∃ z : Str, q = .str z ∧ z.length ≤ 1 ∧ T false z.cps.toList = 0 := by
    simp only [List.mem_cons, List.not_mem_nil, or_false] at hq
    rcases hq with rfl | rfl | rfl <;> exact ⟨_, rfl, by decide, by decide⟩
  have sm : (zs.map (·.length)).sum ≤ zs.length * 9001 := sum_le zs fun z m => (hz z m).1
  have sT : (zs.map fun y => T false y.cps.toList).sum ≤ zs.length * 14 := sum_le zs fun z m => (hz z m).2
  have sq : zs.length * sep.length ≤ 39 * 1 := Nat.mul_le_mul hl2 hs1
  have j1 : (zs.map (·.length)).sum + zs.length * sep.length ≤ 16777216 := by omega
  have jT : T false (Txt.join sep zs).cps.toList ≤ 546 := by
    rw [join_eqS]
    have := T_join sep hs2 zs
    omega
  generalize hzz : Txt.join sep zs = z at jT
  by_cases hlen : z.length < 59000
  · have hc : ((z.length : Int) < 59000) := by omega
    have hz' : z.length ≤ 16777216 := by omega
    have hs := slen z
    have w1 := law_words (z := z) (by omega)
    obtain ⟨g1, h1⟩ := good z.cps.toList.length z.cps.toList 0 0 (Nat.le_refl _) (by omega) (by omega)
    have w2 := text_words (z := z) (by omega) (by have := g1.len; omega)
    have w3 := wrong_sign (z := z) (by omega)
    have hzl2 : (z ++ Str.ofString "\n0 x").length = z.length + 4 := by rw [Str.length_append]; rfl
    have hadd : z.length + (Str.ofString "\n0 x").length ≤ 16777216 := by
      rw [show (Str.ofString "\n0 x").length = 4 from rfl]
      omega
    have hT2 : T false (z ++ Str.ofString "\n0 x").cps.toList ≤ 548 := by
      rw [Str.cps_append, Array.toList_append]
      have a := T_app false z.cps.toList (Str.ofString "\n0 x").cps.toList
      rw [show T false (Str.ofString "\n0 x").cps.toList = 2 from rfl] at a
      omega
    generalize hy : z ++ Str.ofString "\n0 x" = y at hzl2 hT2
    have hsy := slen y
    have v1 := law_words (z := y) (by omega)
    obtain ⟨g2, h2⟩ := good y.cps.toList.length y.cps.toList 0 0 (Nat.le_refl _) (by omega) (by omega)
    have v2 := text_words (z := y) (by omega) (by have := g2.len; omega)
    have v3 := wrong_sign (z := y) (by omega)
    have r1 := (rep_ok g1 g1 h1 (by omega) (by omega) (by omega) (by omega)).1
    have r2 := (rep_ok g1 g2 h2 (by omega) (by omega) (by omega) (by omega)).2
    have l1 : (wsp z.cps.toList 0 0).1.length < 16777216 := by have := g1.len; omega
    have f1 := h1.fm
    have f2 := h2.fm
    clear g1 g2 h1 h2
    generalize wsp z.cps.toList 0 0 = w at *
    generalize wsp y.cps.toList 0 0 = v at *
    obtain ⟨ws, we⟩ := w
    obtain ⟨vs, ve⟩ := v
    dsimp only at *
    have eq1 : ∀ s : Str, decide (s = s) = true := fun s => decide_eq_true rfl
    rcases f1 with rfl | ⟨xs, rfl⟩ <;> rcases f2 with rfl | ⟨ys, rfl⟩ <;>
    · simp only [fillSl, List.length_cons, List.length_nil, List.replicate, List.cons_append, List.nil_append, List.getElem?_cons_zero, List.getElem?_cons_succ, List.set_cons_zero, List.set_cons_succ, Nat.reduceAdd, Nat.reduceSub, Nat.reduceLT, seqS, nxS, setS, dropS, retS, iteS, retV, asg, potS, potDivS, appS, extS, unpS, parS, asgPs, asgP, asgD, asgDs, calm, binE, unE, potE, constE, varE, andE, orE, notE, ifE, tupE, lstE, slE, optE, callE, callF, callKF, methE, isiE, argsE, argsOf, datsOf, resV, newT, newL, shq, shf, opF, cF, addV, mulV, ixV, slV, gtK, ltK, leK, geK, subK, addK, mulK, fdivK, modK, powK, eq_int, ne_int, eq_str, ne_str, intK, absK, isiB, Val.dat, Val.items, flat, flatA, isL, Bool.and_true, Bool.true_and, Bool.false_and, Bool.and_false, if_true, if_false, Bool.false_eq_true, Option.map_some, Option.map_none, Bool.not_true, Bool.not_false, decide_true, decide_false, reduceIte, reduceCtorEq, and_self, true_and, and_true, yes_ap, sizeLine_eq, Nat.reduceLeDiff, e1, e2, e3, lcE, rng1J, hr, wipeSl, lz, joinM, strsOf_map, j1, hzz, lenV, hz', hc, perm, List.filterMap_cons, List.filterMap_nil, w1, w2, w3, v1, v2, v3, hadd, hy, reprK, r1, r2, eq1, l1]
      exact ⟨_, _, _, _, _, _, _, _, _, _, rfl⟩
  · have hc : ¬ ((z.length : Int) < 59000) := by omega
    have hz' : z.length ≤ 16777216 := by
      rw [← hzz, join_len]
      have : (zs.length - 1) * sep.length ≤ 39 * 1 := Nat.mul_le_mul (by omega) hs1
      omega
    simp only [fillSl, List.length_cons, List.length_nil, List.replicate, List.cons_append, List.nil_append, List.getElem?_cons_zero, List.getElem?_cons_succ, List.set_cons_zero, List.set_cons_succ, Nat.reduceAdd, Nat.reduceSub, Nat.reduceLT, seqS, nxS, setS, dropS, retS, iteS, retV, asg, potS, potDivS, appS, extS, unpS, parS, asgPs, asgP, asgD, asgDs, calm, binE, unE, potE, constE, varE, andE, orE, notE, ifE, tupE, lstE, slE, optE, callE, callF, callKF, methE, isiE, argsE, argsOf, datsOf, resV, newT, newL, shq, shf, opF, cF, addV, mulV, ixV, slV, gtK, ltK, leK, geK, subK, addK, mulK, fdivK, modK, powK, eq_int, ne_int, eq_str, ne_str, intK, absK, isiB, Val.dat, Val.items, flat, flatA, isL, Bool.and_true, Bool.true_and, Bool.false_and, Bool.and_false, if_true, if_false, Bool.false_eq_true, Option.map_some, Option.map_none, Bool.not_true, Bool.not_false, decide_true, decide_false, reduceIte, reduceCtorEq, and_self, true_and, and_true, yes_ap, sizeLine_eq, Nat.reduceLeDiff, e1, e2, e3, lcE, rng1J, hr, wipeSl, lz, joinM, strsOf_map, j1, hzz, lenV, hz', hc]
    exact ⟨_, _, _, _, _, _, _, _, _, _, rfl⟩
theorem math (p : Pot) : ∃ p', F_law_right [.pot] p = some (.sh (.bool true), p') := by
  obtain ⟨a1, a2, a3, a4, a5, a6, a7, a8, a9, p1, ea⟩ := turn p (.sh (.int 0)) .un .un .un .un .un .un .un .un
  obtain ⟨b1, b2, b3, b4, b5, b6, b7, b8, b9, p2, eb⟩ := turn p1 (.sh (.int 1)) a2 a3 a4 a5 a6 a7 a8 a9
  obtain ⟨c1, c2, c3, c4, c5, c6, c7, c8, c9, p3, ec⟩ := turn p2 (.sh (.int 2)) b2 b3 b4 b5 b6 b7 b8 b9
  refine ⟨p3, ?_⟩
  unfold F_law_right B_law_right defF
  generalize (seqS (setS 2 (lcE (.nm 9) (rng1J (callF F_law_draw [(varE 0), (constE (.int 40))])) yesE (callF F_law_piece [(varE 0)]) [9]))
    (seqS (setS 3 (methE joinM (callF F_law_pick [(varE 0), (lstE [(constE (.str "")), (constE (.str " ")), (constE (.str " "))])]) [(varE 2)]))
    (iteS (binE (opF ltK) (callE lenV [(varE 3)]) (constE (.int 59000))) (seqS (unpS [(.nm 4), (.nm 5)] (callF F_law_words [(varE 3)]))
    (seqS (setS 6 (callF F_text_words [(varE 3)]))
    (seqS (iteS (binE (opF neK) (callE (cF reprK) [(lstE [(varE 6), (callKF F_text_words [0] [(varE 3)]), (callF F_wrong_sign [(varE 3)]), (callKF F_wrong_sign [0] [(varE 3)])])]) (callE (cF reprK) [(lstE [(varE 4), (varE 4), (varE 5), (varE 5)])])) (retS (constE (.bool false))) nxS)
    (seqS (appS 6 (constE .none))
    (seqS (unpS [(.nm 7), (.nm 8)] (callF F_law_words [(binE addV (varE 3) (constE (.str "\n0 x")))]))
    (iteS (binE (opF neK) (callE (cF reprK) [(lstE [(callF F_text_words [(varE 3)]), (callF F_text_words [(binE addV (varE 3) (constE (.str "\n0 x")))]), (callF F_wrong_sign [(binE addV (varE 3) (constE (.str "\n0 x")))])])]) (callE (cF reprK) [(lstE [(varE 4), (varE 7), (varE 8)])])) (retS (constE (.bool false))) nxS)))))) nxS))) = B at ea eb ec ⊢
  have hr : rangeD 0 (3 : Int).toNat = [.int 0, .int 1, .int 2] := rfl
  have h3 : (-(2 ^ 62) ≤ (3 : Int) ∧ (3 : Int) < 2 ^ 62) := ⟨by decide, by decide⟩
  simp only [fillSl, List.length_cons, List.length_nil, Nat.reduceAdd, Nat.reduceSub, List.replicate, List.cons_append, List.nil_append, seqS, forS, rng1I, constE, h3, and_self, if_true, hr, forL, asgD, Nat.reduceLT, List.set_cons_zero, List.set_cons_succ, ea, eb, ec, retS, retV]
end K11
namespace K11
open PySem PySem.Spec PyProof.Rows L2 Pu
/-! ### the text -/
def topS (i : Nat) : Stmt := PySem.Challenge.pw_nearcells_k11_whole_words_of_texts.main.body.getD i (.Pass ⟨0, 0, 0, 0⟩)
abbrev s__law_draw : Stmt := topS 25
abbrev s__law_pick : Stmt := topS 26
abbrev s__law_piece : Stmt := topS 27
abbrev s__law_size : Stmt := topS 28
abbrev s__law_words : Stmt := topS 29
abbrev s_is_text_any : Stmt := topS 13
abbrev s_want_text : Stmt := topS 14
abbrev s_want_few_words : Stmt := topS 20
abbrev s_remark_end : Stmt := topS 18
abbrev s_run_size : Stmt := topS 16
abbrev s_is_run_word : Stmt := topS 15
abbrev s_text_word_size : Stmt := topS 17
abbrev s_words_apart : Stmt := topS 19
abbrev s_text_words : Stmt := topS 21
abbrev s_wrong_sign : Stmt := topS 22
abbrev s__law_right : Stmt := topS 30
abbrev s__law_pot : Stmt := topS 24
abbrev s_law : Stmt := topS 31
structure Df (K : Fg) (mg : Str → Option Value) (x : Str) (st : Stmt) (ps : List Str) (f : Addr) (fd : FuncData) : Prop where
  F : Fun K x x st f fd
  m : mg x = some (.ref f)
  b : Binds K fd ps []
structure Tx (K : Fg) (mg : Str → Option Value) : Prop where
  d__law_draw : ∃ f fd, Df K mg "_law_draw" s__law_draw ["pot", "many"] f fd
  d__law_pick : ∃ f fd, Df K mg "_law_pick" s__law_pick ["pot", "some"] f fd
  d__law_piece : ∃ f fd, Df K mg "_law_piece" s__law_piece ["pot"] f fd
  d__law_size : ∃ f fd, Df K mg "_law_size" s__law_size ["line", "at"] f fd
  d__law_words : ∃ f fd, Df K mg "_law_words" s__law_words ["text"] f fd
  d_is_text_any : ∃ f fd, Df K mg "is_text_any" s_is_text_any ["value"] f fd
  d_want_text : ∃ f fd, Df K mg "want_text" s_want_text ["text"] f fd
  d_want_few_words : ∃ f fd, Df K mg "want_few_words" s_want_few_words ["words"] f fd
  d_remark_end : ∃ f fd, Df K mg "remark_end" s_remark_end ["text", "at"] f fd
  d_run_size : ∃ f fd, Df K mg "run_size" s_run_size ["text", "at"] f fd
  d_is_run_word : ∃ f fd, Df K mg "is_run_word" s_is_run_word ["value"] f fd
  d_text_word_size : ∃ f fd, Df K mg "text_word_size" s_text_word_size ["text", "at"] f fd
  d_words_apart : ∃ f fd, Df K mg "words_apart" s_words_apart ["text"] f fd
  d_text_words : ∃ f fd, Df K mg "text_words" s_text_words ["text"] f fd
  d_wrong_sign : ∃ f fd, Df K mg "wrong_sign" s_wrong_sign ["text"] f fd
  d__law_right : ∃ f fd, Df K mg "_law_right" s__law_right ["pot"] f fd
  d__law_pot : ∃ f fd, Df K mg "_law_pot" s__law_pot ["script", "k"] f fd
  d_law : ∃ f fd, Df K mg "law" s_law ["script"] f fd
  z_abs : mg "abs" = none
  z_all : mg "all" = none
  z_divmod : mg "divmod" = none
  z_enumerate : mg "enumerate" = none
  z_int : mg "int" = none
  z_isinstance : mg "isinstance" = none
  z_len : mg "len" = none
  z_max : mg "max" = none
  z_min : mg "min" = none
  z_range : mg "range" = none
  z_repr : mg "repr" = none
  z_str : mg "str" = none
  g_FIGURES : ∃ t, mg "FIGURES" = some (.str (Str.ofString "0123456789") t)
  g_LETTERS : ∃ t, mg "LETTERS" = some (.str (Str.ofString "abcdefghijklmnopqrstuvwxyz") t)
  g_MOST_CELLS : ∃ t, mg "MOST_CELLS" = some (.int 4096 t)
  g_MOST_NAME : ∃ t, mg "MOST_NAME" = some (.int 12 t)
  g_MOST_TEXT_SIGNS : ∃ t, mg "MOST_TEXT_SIGNS" = some (.int 60000 t)
  g_MOST_TEXT_WORDS : ∃ t, mg "MOST_TEXT_WORDS" = some (.int 12000 t)
  g_TEXT_SIGNS : ∃ t, mg "TEXT_SIGNS" = some (.str (Str.ofString "(),.=<+-*[]") t)
theorem kw_text_words_0 {K : Fg} {f : Addr} {fd : FuncData} (F : Fun K "text_words" "text_words" s_text_words f fd) : KwBinds K fd ["text"] ["text"] [0] := by
  obtain ⟨oc, od, kV, doc, pm, an, cdv, ct, osl, rfl, lk, hcd⟩ := F.ex
  exact fun s ws _ hl => match ws, hl with | [_], _ => .of_eq rfl
theorem kw_wrong_sign_0 {K : Fg} {f : Addr} {fd : FuncData} (F : Fun K "wrong_sign" "wrong_sign" s_wrong_sign f fd) : KwBinds K fd ["text"] ["text"] [0] := by
  obtain ⟨oc, od, kV, doc, pm, an, cdv, ct, osl, rfl, lk, hcd⟩ := F.ex
  exact fun s ws _ hl => match ws, hl with | [_], _ => .of_eq rfl
section
variable {P : Program} {w : World} {K : Fg} {mg : Str → Option Value} {base : Heap}
theorem sc__law_draw : FnScope ["pot", "many", "digit"] ["pot", "many"] (defScope s__law_draw) := ⟨rfl, rfl, rfl, by decide +kernel, rfl, by decide +kernel, by decide +kernel⟩
theorem ok_law_draw (T : Tx K mg) : ∃ f fd, Df K mg "_law_draw" s__law_draw ["pot", "many"] f fd ∧ FnG P w K mg base 1 f fd ["pot", "many"] F_law_draw := by
  obtain ⟨f, fd, D⟩ := T.d__law_draw
  have z_divmod := T.z_divmod
  have z_int := T.z_int
  have nd := sc__law_draw.nd
  refine ⟨f, fd, D, FnG.of (sm := B_law_draw) D.F sc__law_draw fun cdv A outer s H hgd hr => ?_⟩
  exact (cb_cons (cs_if (ct_cmp op_gt ops_gt (ce_pot0 0) ce_int (nomark _)) (cb_cons (cs_potDiv 0 2 rfl nd (ce_var 1) z_divmod)
      (cb_one (cs_ret (ce_var 2)))) cb_nil)
      (cb_cons (cs_pot1 0 (ce_bin op_mod ops_mod (ce_callTy call_int1 cs_int z_int (by decide +kernel) (ca_cons (ce_bin opr_add ops_add (ce_bin opr_mul ops_mul4 (ce_pot1 0) ce_int) ce_int) ca_nil)) ce_int))
      (cb_one (cs_ret (ce_bin op_mod ops_mod (ce_callTy call_int1 cs_int z_int (by decide +kernel) (ca_cons (ce_bin op_fdiv ops_fdiv (ce_bin op_mod ops_mod (ce_callTy call_int1 cs_int z_int (by decide +kernel) (ca_cons (ce_bin opr_mul ops_mul4 (ce_pot1 0) (ce_pot1 0)) ca_nil)) ce_int) ce_int) ca_nil)) (ce_var 1))))))
theorem sc__law_pick : FnScope ["pot", "some"] ["pot", "some"] (defScope s__law_pick) := ⟨rfl, rfl, rfl, by decide +kernel, rfl, by decide +kernel, by decide +kernel⟩
theorem ok_law_pick (T : Tx K mg) : ∃ f fd, Df K mg "_law_pick" s__law_pick ["pot", "some"] f fd ∧ FnG P w K mg base 2 f fd ["pot", "some"] F_law_pick := by
  obtain ⟨f, fd, D⟩ := T.d__law_pick
  obtain ⟨_, _, D__law_draw, G__law_draw⟩ := ok_law_draw (P := P) (w := w) (base := base) T
  have z_len := T.z_len
  have nd := sc__law_pick.nd
  refine ⟨f, fd, D, FnG.of (sm := B_law_pick) D.F sc__law_pick fun cdv A outer s H hgd hr => ?_⟩
  exact (cb_one (cs_ret (ce_ix (ce_var 1) (ce_call G__law_draw hgd (hr.mono (by decide)) D__law_draw.m D__law_draw.F.kp D__law_draw.b (ca_cons (ce_var 0) (ca_cons (ce_callB call_len cs_len z_len (by decide +kernel) (ca_cons (ce_var 1) ca_nil)) ca_nil))))))
theorem sc__law_piece : FnScope ["pot", "way", "turn"] ["pot"] (defScope s__law_piece) := ⟨rfl, rfl, rfl, by decide +kernel, rfl, by decide +kernel, by decide +kernel⟩
theorem ok_law_piece (T : Tx K mg) : ∃ f fd, Df K mg "_law_piece" s__law_piece ["pot"] f fd ∧ FnG P w K mg base 3 f fd ["pot"] F_law_piece := by
  obtain ⟨f, fd, D⟩ := T.d__law_piece
  obtain ⟨_, _, D__law_draw, G__law_draw⟩ := ok_law_draw (P := P) (w := w) (base := base) T
  obtain ⟨_, _, D__law_pick, G__law_pick⟩ := ok_law_pick (P := P) (w := w) (base := base) T
  have z_range := T.z_range
  have nd := sc__law_piece.nd
  refine ⟨f, fd, D, FnG.of (sm := B_law_piece) D.F sc__law_piece fun cdv A outer s H hgd hr => ?_⟩
  exact (cb_cons (cs_set 1 nd (ce_call G__law_draw hgd (hr.mono (by decide)) D__law_draw.m D__law_draw.F.kp D__law_draw.b (ca_cons (ce_var 0) (ca_cons ce_int ca_nil))))
      (cb_cons (cs_if (ct_cmp op_lt ops_lt (ce_var 1) ce_int (nomark _)) (cb_one (cs_ret (ce_smeth PySem.F.slot_str_join PySem.F.type_str_join mt_join ms_join ce_str (ca_cons (ce_lc [("turn", 2)] rfl nd (cj_rng1 z_range (ce_call G__law_pick hgd (hr.mono (by decide)) D__law_pick.m D__law_pick.F.kp D__law_pick.b (ca_cons (ce_var 0) (ca_cons (ce_lst (ca_cons ce_int (ca_cons ce_int (ca_cons ce_int (ca_cons ce_int (ca_cons ce_int (ca_cons ce_int (ca_cons ce_int ca_nil)))))))) ca_nil)))) (blkOk_by (N := ["pot", "way", "turn"]) (sc := defScope s__law_piece) (by decide +kernel)) (fun _ _ _ _ _ => (cg_nm 2 nd)) (fun _ _ _ _ _ => cts_nil) (fun _ _ _ _ _ => (ce_call G__law_pick hgd (hr.mono (by decide)) D__law_pick.m D__law_pick.F.kp D__law_pick.b (ca_cons (ce_var 0) (ca_cons ce_str ca_nil))))) ca_nil)))) cb_nil)
      (cb_cons (cs_if (ct_cmp op_lt ops_lt (ce_var 1) ce_int (nomark _)) (cb_one (cs_ret (ce_call G__law_pick hgd (hr.mono (by decide)) D__law_pick.m D__law_pick.F.kp D__law_pick.b (ca_cons (ce_var 0) (ca_cons (ce_lst (ca_cons ce_str (ca_cons ce_str (ca_cons ce_str (ca_cons ce_str (ca_cons ce_str (ca_cons ce_str (ca_cons ce_str (ca_cons ce_str ca_nil))))))))) ca_nil))))) cb_nil)
      (cb_cons (cs_if (ct_cmp (opr_eq hr.units) ops_eq (ce_var 1) ce_int (nomark _)) (cb_one (cs_ret (ce_call G__law_pick hgd (hr.mono (by decide)) D__law_pick.m D__law_pick.F.kp D__law_pick.b (ca_cons (ce_var 0) (ca_cons (ce_lst (ca_cons ce_str (ca_cons ce_str (ca_cons ce_str (ca_cons ce_str (ca_cons ce_str (ca_cons ce_str (ca_cons ce_str (ca_cons ce_str (ca_cons ce_str (ca_cons ce_str (ca_cons ce_str ca_nil)))))))))))) ca_nil))))) cb_nil)
      (cb_cons (cs_if (ct_cmp (opr_eq hr.units) ops_eq (ce_var 1) ce_int (nomark _)) (cb_one (cs_ret (ce_bin opr_mul ops_mul4 (ce_call G__law_pick hgd (hr.mono (by decide)) D__law_pick.m D__law_pick.F.kp D__law_pick.b (ca_cons (ce_var 0) (ca_cons (ce_lst (ca_cons ce_str (ca_cons ce_str (ca_cons ce_str ca_nil)))) ca_nil))) (ce_call G__law_pick hgd (hr.mono (by decide)) D__law_pick.m D__law_pick.F.kp D__law_pick.b (ca_cons (ce_var 0) (ca_cons (ce_lst (ca_cons ce_int (ca_cons ce_int (ca_cons ce_int (ca_cons ce_int (ca_cons ce_int (ca_cons ce_int ca_nil))))))) ca_nil)))))) cb_nil)
      (cb_cons (cs_if (ct_cmp (opr_eq hr.units) ops_eq (ce_var 1) ce_int (nomark _)) (cb_one (cs_ret (ce_bin opr_add ops_add ce_str (ce_call G__law_pick hgd (hr.mono (by decide)) D__law_pick.m D__law_pick.F.kp D__law_pick.b (ca_cons (ce_var 0) (ca_cons (ce_lst (ca_cons ce_str (ca_cons ce_str (ca_cons ce_str (ca_cons ce_str (ca_cons ce_str ca_nil)))))) ca_nil)))))) cb_nil)
      (cb_one (cs_ret (ce_call G__law_pick hgd (hr.mono (by decide)) D__law_pick.m D__law_pick.F.kp D__law_pick.b (ca_cons (ce_var 0) (ca_cons (ce_lst (ca_cons ce_str (ca_cons ce_str (ca_cons ce_str (ca_cons ce_str (ca_cons ce_str (ca_cons ce_str (ca_cons ce_str (ca_cons ce_str (ca_cons ce_str (ca_cons ce_str (ca_cons ce_str (ca_cons ce_str (ca_cons ce_str (ca_cons ce_str (ca_cons ce_str ca_nil)))))))))))))))) ca_nil)))))))))))
theorem sc__law_size : FnScope ["line", "at", "size", "run", "is_name", "is_figures"] ["line", "at"] (defScope s__law_size) := ⟨rfl, rfl, rfl, by decide +kernel, rfl, by decide +kernel, by decide +kernel⟩
theorem ok_law_size (T : Tx K mg) : ∃ f fd, Df K mg "_law_size" s__law_size ["line", "at"] f fd ∧ FnG P w K mg base 1 f fd ["line", "at"] F_law_size := by
  obtain ⟨f, fd, D⟩ := T.d__law_size
  have z_len := T.z_len
  have nd := sc__law_size.nd
  refine ⟨f, fd, D, FnG.of (sm := B_law_size) D.F sc__law_size fun cdv A outer s H hgd hr => ?_⟩
  exact (cb_cons (cs_if (ct_cmp (opr_in (u65 hr)) ops_in (ce_ix (ce_var 0) (ce_var 1)) ce_str (by rfl)) (cb_one (cs_ret ce_int)) cb_nil)
      (cb_cons (cs_set 2 nd ce_int)
      (cb_cons (cs_while PassesOwn.never (cw_and (ct_cmp op_lt ops_lt (ce_bin opr_add ops_add (ce_var 1) (ce_var 2)) (ce_callB call_len cs_len z_len (by decide +kernel) (ca_cons (ce_var 0) ca_nil)) (nomark _)) (cw_and1 (ct_cmp (opr_in (u65 hr)) ops_in (ce_ix (ce_var 0) (ce_bin opr_add ops_add (ce_var 1) (ce_var 2))) ce_str (by rfl)))).t (cb_one (cs_set 2 nd (ce_bin opr_add ops_add (ce_var 2) ce_int))))
      (cb_cons (cs_set 3 nd (ce_slice (ce_var 0) (co_some (ce_var 1)) (co_some (ce_bin opr_add ops_add (ce_var 1) (ce_var 2)))))
      (cb_cons (cs_set 4 nd (ce_and (ce_cmp (opr_ne hr.units) ops_ne (ce_var 3) ce_str (nomark _)) (ce_and (ce_cmp (opr_nin (u65 hr)) ops_nin (ce_ix (ce_var 3) ce_int) ce_str (by rfl)) (ce_one (ce_cmp op_le ops_le (ce_var 2) ce_int (nomark _))))))
      (cb_cons (cs_set 5 nd (ce_and (ce_cmp (opr_ne hr.units) ops_ne (ce_var 3) ce_str (nomark _)) (ce_and (ce_cmp op_le ops_le (ce_var 2) ce_int (nomark _)) (ce_one (ce_cmp (opr_eq hr.units) ops_eq (ce_smeth PySem.F.slot_str_strip PySem.F.type_str_strip mt_stripChars ms_strip (ce_var 3) (ca_cons ce_str ca_nil)) ce_str (nomark _))))))
      (cb_one (cs_ret (ce_if (cw_or (ct_val (ce_var 4)) (cw_or1 (ct_val (ce_var 5)))).t (ce_var 2) ce_int)))))))))
theorem sc__law_words : FnScope ["text", "found", "number", "line", "at", "size"] ["text"] (defScope s__law_words) := ⟨rfl, rfl, rfl, by decide +kernel, rfl, by decide +kernel, by decide +kernel⟩
theorem ok_law_words (T : Tx K mg) : ∃ f fd, Df K mg "_law_words" s__law_words ["text"] f fd ∧ FnG P w K mg base 2 f fd ["text"] F_law_words := by
  obtain ⟨f, fd, D⟩ := T.d__law_words
  obtain ⟨_, _, D__law_size, G__law_size⟩ := ok_law_size (P := P) (w := w) (base := base) T
  have z_enumerate := T.z_enumerate
  have z_len := T.z_len
  have nd := sc__law_words.nd
  refine ⟨f, fd, D, FnG.of (sm := B_law_words) D.F sc__law_words fun cdv A outer s H hgd hr => ?_⟩
  exact (cb_cons (cs_set 1 nd (ce_lst ca_nil))
      (cb_cons (cs_for PassesOwn.never rfl (ci_enum z_enumerate (ce_smeth PySem.F.slot_str_split PySem.F.type_str_split mt_split ms_split (ce_var 0) (ca_cons ce_str ca_nil))) (cg_tp rfl (cgs_cons (cg_nm 2 nd) (cgs_cons (cg_nm 3 nd) cgs_nil))) (cb_cons (cs_set 4 nd ce_int)
      (cb_one (cs_while PassesOwn.never (cw_and (ct_cmp op_lt ops_lt (ce_var 4) (ce_callB call_len cs_len z_len (by decide +kernel) (ca_cons (ce_var 3) ca_nil)) (nomark _)) (cw_and1 (ct_cmp (opr_ne hr.units) ops_ne (ce_ix (ce_var 3) (ce_var 4)) ce_str (nomark _)))).t (cb_cons (cs_set 5 nd (ce_if (ct_cmp (opr_eq hr.units) ops_eq (ce_ix (ce_var 3) (ce_var 4)) ce_str (nomark _)) ce_int (ce_call G__law_size hgd (hr.mono (by decide)) D__law_size.m D__law_size.F.kp D__law_size.b (ca_cons (ce_var 3) (ca_cons (ce_var 4) ca_nil)))))
      (cb_cons (cs_if (ct_cmp (opr_eq hr.units) ops_eq (ce_var 5) ce_int (nomark _)) (cb_one (cs_ret (ce_tup (ca_cons (ce_var 1) (ca_cons (ce_tup (ca_cons (ce_var 2) (ca_cons (ce_var 4) ca_nil))) ca_nil))))) cb_nil)
      (cb_cons (cs_extend 1 (ce_if (ct_cmp (opr_ne hr.units) ops_ne (ce_ix (ce_var 3) (ce_var 4)) ce_str (nomark _)) (ce_lst (ca_cons (ce_tup (ca_cons (ce_slice (ce_var 3) (co_some (ce_var 4)) (co_some (ce_bin opr_add ops_add (ce_var 4) (ce_var 5)))) (ca_cons (ce_var 2) (ca_cons (ce_var 4) ca_nil)))) ca_nil)) (ce_lst ca_nil)))
      (cb_one (cs_set 4 nd (ce_bin opr_add ops_add (ce_var 4) (ce_var 5)))))))))))
      (cb_one (cs_ret (ce_tup (ca_cons (ce_var 1) (ca_cons ce_non ca_nil)))))))
theorem sc_is_text_any : FnScope ["value"] ["value"] (defScope s_is_text_any) := ⟨rfl, rfl, rfl, by decide +kernel, rfl, by decide +kernel, by decide +kernel⟩
theorem ok_is_text_any (T : Tx K mg) : ∃ f fd, Df K mg "is_text_any" s_is_text_any ["value"] f fd ∧ FnG P w K mg base 1 f fd ["value"] F_is_text_any := by
  obtain ⟨f, fd, D⟩ := T.d_is_text_any
  have z_isinstance := T.z_isinstance
  have z_len := T.z_len
  have z_str := T.z_str
  obtain ⟨_, g_MOST_TEXT_SIGNS⟩ := T.g_MOST_TEXT_SIGNS
  have nd := sc_is_text_any.nd
  refine ⟨f, fd, D, FnG.of (sm := B_is_text_any) D.F sc_is_text_any fun cdv A outer s H hgd hr => ?_⟩
  exact (cb_one (cs_ret (ce_and (ce_isi (ce_var 0) z_isinstance z_str (by decide +kernel)) (ce_one (ce_cmp op_le ops_le (ce_callB call_len cs_len z_len (by decide +kernel) (ca_cons (ce_var 0) ca_nil)) (ce_gint g_MOST_TEXT_SIGNS) (nomark _))))))
theorem sc_want_text : FnScope ["text"] ["text"] (defScope s_want_text) := ⟨rfl, rfl, rfl, by decide +kernel, rfl, by decide +kernel, by decide +kernel⟩
theorem ok_want_text (T : Tx K mg) : ∃ f fd, Df K mg "want_text" s_want_text ["text"] f fd ∧ FnG P w K mg base 2 f fd ["text"] F_want_text := by
  obtain ⟨f, fd, D⟩ := T.d_want_text
  obtain ⟨_, _, D_is_text_any, G_is_text_any⟩ := ok_is_text_any (P := P) (w := w) (base := base) T
  have nd := sc_want_text.nd
  refine ⟨f, fd, D, FnG.of (sm := B_want_text) D.F sc_want_text fun cdv A outer s H hgd hr => ?_⟩
  exact (cb_one (cs_if (ct_not (ct_val (ce_call G_is_text_any hgd (hr.mono (by decide)) D_is_text_any.m D_is_text_any.F.kp D_is_text_any.b (ca_cons (ce_var 0) ca_nil)))) (cb_one cs_never) cb_nil))
theorem sc_want_few_words : FnScope ["words"] ["words"] (defScope s_want_few_words) := ⟨rfl, rfl, rfl, by decide +kernel, rfl, by decide +kernel, by decide +kernel⟩
theorem ok_want_few_words (T : Tx K mg) : ∃ f fd, Df K mg "want_few_words" s_want_few_words ["words"] f fd ∧ FnG P w K mg base 1 f fd ["words"] F_want_few_words := by
  obtain ⟨f, fd, D⟩ := T.d_want_few_words
  have z_len := T.z_len
  obtain ⟨_, g_MOST_TEXT_WORDS⟩ := T.g_MOST_TEXT_WORDS
  have nd := sc_want_few_words.nd
  refine ⟨f, fd, D, FnG.of (sm := B_want_few_words) D.F sc_want_few_words fun cdv A outer s H hgd hr => ?_⟩
  exact (cb_one (cs_if (ct_cmp op_gt ops_gt (ce_callB call_len cs_len z_len (by decide +kernel) (ca_cons (ce_var 0) ca_nil)) (ce_gint g_MOST_TEXT_WORDS) (nomark _)) (cb_one cs_never) cb_nil))
theorem sc_remark_end : FnScope ["text", "at", "found"] ["text", "at"] (defScope s_remark_end) := ⟨rfl, rfl, rfl, by decide +kernel, rfl, by decide +kernel, by decide +kernel⟩
theorem ok_remark_end (T : Tx K mg) : ∃ f fd, Df K mg "remark_end" s_remark_end ["text", "at"] f fd ∧ FnG P w K mg base 1 f fd ["text", "at"] F_remark_end := by
  obtain ⟨f, fd, D⟩ := T.d_remark_end
  have z_len := T.z_len
  have nd := sc_remark_end.nd
  refine ⟨f, fd, D, FnG.of (sm := B_remark_end) D.F sc_remark_end fun cdv A outer s H hgd hr => ?_⟩
  exact (cb_cons (cs_set 2 nd (ce_smeth PySem.F.slot_str_find PySem.F.type_str_find mt_find3 ms_find3 (ce_var 0) (ca_cons ce_str (ca_cons (ce_var 1) ca_nil))))
      (cb_one (cs_ret (ce_if (ct_cmp op_lt ops_lt (ce_var 2) ce_int (nomark _)) (ce_callB call_len cs_len z_len (by decide +kernel) (ca_cons (ce_var 0) ca_nil)) (ce_var 2)))))
theorem sc_run_size : FnScope ["text", "at", "size"] ["text", "at"] (defScope s_run_size) := ⟨rfl, rfl, rfl, by decide +kernel, rfl, by decide +kernel, by decide +kernel⟩
theorem ok_run_size (T : Tx K mg) : ∃ f fd, Df K mg "run_size" s_run_size ["text", "at"] f fd ∧ FnG P w K mg base 1 f fd ["text", "at"] F_run_size := by
  obtain ⟨f, fd, D⟩ := T.d_run_size
  have z_len := T.z_len
  obtain ⟨_, g_FIGURES⟩ := T.g_FIGURES
  obtain ⟨_, g_LETTERS⟩ := T.g_LETTERS
  have nd := sc_run_size.nd
  refine ⟨f, fd, D, FnG.of (sm := B_run_size) D.F sc_run_size fun cdv A outer s H hgd hr => ?_⟩
  exact (cb_cons (cs_set 2 nd ce_int)
      (cb_cons (cs_while PassesOwn.never (cw_and (ct_cmp op_lt ops_lt (ce_bin opr_add ops_add (ce_var 1) (ce_var 2)) (ce_callB call_len cs_len z_len (by decide +kernel) (ca_cons (ce_var 0) ca_nil)) (nomark _)) (cw_and1 (cw_or (ct_cmp (opr_in (u65 hr)) ops_in (ce_ix (ce_var 0) (ce_bin opr_add ops_add (ce_var 1) (ce_var 2))) (ce_gstr g_LETTERS) (by rfl)) (cw_or1 (ct_cmp (opr_in (u65 hr)) ops_in (ce_ix (ce_var 0) (ce_bin opr_add ops_add (ce_var 1) (ce_var 2))) (ce_gstr g_FIGURES) (by rfl)))).t)).t (cb_one (cs_set 2 nd (ce_bin opr_add ops_add (ce_var 2) ce_int))))
      (cb_one (cs_ret (ce_var 2)))))
theorem sc_is_run_word : FnScope ["value", "sign"] ["value"] (defScope s_is_run_word) := ⟨rfl, rfl, rfl, by decide +kernel, rfl, by decide +kernel, by decide +kernel⟩
theorem ok_is_run_word (T : Tx K mg) : ∃ f fd, Df K mg "is_run_word" s_is_run_word ["value"] f fd ∧ FnG P w K mg base 1 f fd ["value"] F_is_run_word := by
  obtain ⟨f, fd, D⟩ := T.d_is_run_word
  have z_all := T.z_all
  have z_len := T.z_len
  obtain ⟨_, g_FIGURES⟩ := T.g_FIGURES
  obtain ⟨_, g_LETTERS⟩ := T.g_LETTERS
  obtain ⟨_, g_MOST_CELLS⟩ := T.g_MOST_CELLS
  obtain ⟨_, g_MOST_NAME⟩ := T.g_MOST_NAME
  have nd := sc_is_run_word.nd
  refine ⟨f, fd, D, FnG.of (sm := B_is_run_word) D.F sc_is_run_word fun cdv A outer s H hgd hr => ?_⟩
  exact (cb_cons (cs_if (ct_cmp (opr_in (u65 hr)) ops_in (ce_ix (ce_var 0) ce_int) (ce_gstr g_LETTERS) (by rfl)) (cb_one (cs_ret (ce_cmp op_le ops_le (ce_callB call_len cs_len z_len (by decide +kernel) (ca_cons (ce_var 0) ca_nil)) (ce_gint g_MOST_NAME) (nomark _)))) cb_nil)
      (cb_one (cs_ret (ce_and (ce_cmp op_le ops_le (ce_callB call_len cs_len z_len (by decide +kernel) (ca_cons (ce_var 0) ca_nil)) (ce_gint g_MOST_CELLS) (nomark _)) (ce_one (ce_callB (cr_all rfl) cs_all z_all (by decide +kernel) (ca_cons (ce_lc [("sign", 1)] rfl nd (cj_val (ce_var 0)) (blkOk_by (N := ["value", "sign"]) (sc := defScope s_is_run_word) (by decide +kernel)) (fun _ _ _ _ _ => (cg_nm 1 nd)) (fun _ _ _ _ _ => cts_nil) (fun _ _ _ _ _ => (ce_cmp (opr_in (u65 hr)) ops_in (ce_var 1) (ce_gstr g_FIGURES) (by rfl)))) ca_nil)))))))
theorem sc_text_word_size : FnScope ["text", "at", "size"] ["text", "at"] (defScope s_text_word_size) := ⟨rfl, rfl, rfl, by decide +kernel, rfl, by decide +kernel, by decide +kernel⟩
theorem ok_text_word_size (T : Tx K mg) : ∃ f fd, Df K mg "text_word_size" s_text_word_size ["text", "at"] f fd ∧ FnG P w K mg base 2 f fd ["text", "at"] F_text_word_size := by
  obtain ⟨f, fd, D⟩ := T.d_text_word_size
  obtain ⟨_, _, D_run_size, G_run_size⟩ := ok_run_size (P := P) (w := w) (base := base) T
  obtain ⟨_, _, D_is_run_word, G_is_run_word⟩ := ok_is_run_word (P := P) (w := w) (base := base) T
  obtain ⟨_, g_TEXT_SIGNS⟩ := T.g_TEXT_SIGNS
  have nd := sc_text_word_size.nd
  refine ⟨f, fd, D, FnG.of (sm := B_text_word_size) D.F sc_text_word_size fun cdv A outer s H hgd hr => ?_⟩
  exact (cb_cons (cs_if (ct_cmp (opr_in (u65 hr)) ops_in (ce_ix (ce_var 0) (ce_var 1)) (ce_gstr g_TEXT_SIGNS) (by rfl)) (cb_one (cs_ret ce_int)) cb_nil)
      (cb_cons (cs_set 2 nd (ce_call G_run_size hgd (hr.mono (by decide)) D_run_size.m D_run_size.F.kp D_run_size.b (ca_cons (ce_var 0) (ca_cons (ce_var 1) ca_nil))))
      (cb_one (cs_ret (ce_if (cw_and (ct_cmp op_gt ops_gt (ce_var 2) ce_int (nomark _)) (cw_and1 (ct_val (ce_call G_is_run_word hgd (hr.mono (by decide)) D_is_run_word.m D_is_run_word.F.kp D_is_run_word.b (ca_cons (ce_slice (ce_var 0) (co_some (ce_var 1)) (co_some (ce_bin opr_add ops_add (ce_var 1) (ce_var 2)))) ca_nil))))).t (ce_var 2) ce_int)))))
theorem sc_words_apart : FnScope ["text", "found", "line", "begin", "at", "size"] ["text"] (defScope s_words_apart) := ⟨rfl, rfl, rfl, by decide +kernel, rfl, by decide +kernel, by decide +kernel⟩
theorem ok_words_apart (T : Tx K mg) : ∃ f fd, Df K mg "words_apart" s_words_apart ["text"] f fd ∧ FnG P w K mg base 3 f fd ["text"] F_words_apart := by
  obtain ⟨f, fd, D⟩ := T.d_words_apart
  obtain ⟨_, _, D_remark_end, G_remark_end⟩ := ok_remark_end (P := P) (w := w) (base := base) T
  obtain ⟨_, _, D_text_word_size, G_text_word_size⟩ := ok_text_word_size (P := P) (w := w) (base := base) T
  have z_len := T.z_len
  have nd := sc_words_apart.nd
  refine ⟨f, fd, D, FnG.of (sm := B_words_apart) D.F sc_words_apart fun cdv A outer s H hgd hr => ?_⟩
  exact (cb_cons (cs_parT [1, 2, 3, 4] rfl (pgs_cons (pg_name (i := 1) nd rfl (by first | exact Or.inl rfl | exact Or.inr rfl) (by first | exact .inl rfl | exact .inr rfl)) (pgs_cons (pg_name (i := 2) nd rfl (by first | exact Or.inl rfl | exact Or.inr rfl) (by first | exact .inl rfl | exact .inr rfl)) (pgs_cons (pg_name (i := 3) nd rfl (by first | exact Or.inl rfl | exact Or.inr rfl) (by first | exact .inl rfl | exact .inr rfl)) (pgs_cons (pg_name (i := 4) nd rfl (by first | exact Or.inl rfl | exact Or.inr rfl) (by first | exact .inl rfl | exact .inr rfl)) pgs_nil)))) (cp_cons (ce_lst ca_nil) (cp_cons ce_int (cp_cons ce_int (cp_cons ce_int cp_nil)))))
      (cb_cons (cs_while PassesOwn.never (ct_cmp op_lt ops_lt (ce_var 4) (ce_callB call_len cs_len z_len (by decide +kernel) (ca_cons (ce_var 0) ca_nil)) (nomark _)) (cb_one (cs_if (ct_cmp (opr_eq hr.units) ops_eq (ce_ix (ce_var 0) (ce_var 4)) ce_str (nomark _)) (cb_one (cs_par3 2 3 4 rfl nd (cp_cons (ce_bin opr_add ops_add (ce_var 2) ce_int) (cp_cons (ce_bin opr_add ops_add (ce_var 4) ce_int) (cp_cons (ce_bin opr_add ops_add (ce_var 4) ce_int) cp_nil))) (by rfl))) (cb_one (cs_if (ct_cmp (opr_eq hr.units) ops_eq (ce_ix (ce_var 0) (ce_var 4)) ce_str (nomark _)) (cb_one (cs_set 4 nd (ce_bin opr_add ops_add (ce_var 4) ce_int))) (cb_one (cs_if (ct_cmp (opr_eq hr.units) ops_eq (ce_ix (ce_var 0) (ce_var 4)) ce_str (nomark _)) (cb_one (cs_set 4 nd (ce_call G_remark_end hgd (hr.mono (by decide)) D_remark_end.m D_remark_end.F.kp D_remark_end.b (ca_cons (ce_var 0) (ca_cons (ce_var 4) ca_nil))))) (cb_cons (cs_set 5 nd (ce_call G_text_word_size hgd (hr.mono (by decide)) D_text_word_size.m D_text_word_size.F.kp D_text_word_size.b (ca_cons (ce_var 0) (ca_cons (ce_var 4) ca_nil))))
      (cb_cons (cs_if (ct_cmp (opr_eq hr.units) ops_eq (ce_var 5) ce_int (nomark _)) (cb_one (cs_ret (ce_tup (ca_cons (ce_var 1) (ca_cons (ce_tup (ca_cons (ce_var 2) (ca_cons (ce_bin op_sub ops_sub (ce_var 4) (ce_var 3)) ca_nil))) (ca_cons (ce_tup (ca_cons (ce_var 2) (ca_cons (ce_bin op_sub ops_sub (ce_var 4) (ce_var 3)) ca_nil))) ca_nil)))))) cb_nil)
      (cb_cons (cs_append 1 (ce_tup (ca_cons (ce_slice (ce_var 0) (co_some (ce_var 4)) (co_some (ce_bin opr_add ops_add (ce_var 4) (ce_var 5)))) (ca_cons (ce_var 2) (ca_cons (ce_bin op_sub ops_sub (ce_var 4) (ce_var 3)) ca_nil)))))
      (cb_one (cs_set 4 nd (ce_bin opr_add ops_add (ce_var 4) (ce_var 5))))))))))))))
      (cb_one (cs_ret (ce_tup (ca_cons (ce_var 1) (ca_cons ce_non (ca_cons (ce_tup (ca_cons (ce_var 2) (ca_cons (ce_bin op_sub ops_sub (ce_var 4) (ce_var 3)) ca_nil))) ca_nil))))))))
theorem sc_text_words : FnScope ["text", "words"] ["text"] (defScope s_text_words) := ⟨rfl, rfl, rfl, by decide +kernel, rfl, by decide +kernel, by decide +kernel⟩
theorem ok_text_words (T : Tx K mg) : ∃ f fd, Df K mg "text_words" s_text_words ["text"] f fd ∧ FnG P w K mg base 4 f fd ["text"] F_text_words := by
  obtain ⟨f, fd, D⟩ := T.d_text_words
  obtain ⟨_, _, D_want_text, G_want_text⟩ := ok_want_text (P := P) (w := w) (base := base) T
  obtain ⟨_, _, D_words_apart, G_words_apart⟩ := ok_words_apart (P := P) (w := w) (base := base) T
  obtain ⟨_, _, D_want_few_words, G_want_few_words⟩ := ok_want_few_words (P := P) (w := w) (base := base) T
  have nd := sc_text_words.nd
  refine ⟨f, fd, D, FnG.of (sm := B_text_words) D.F sc_text_words fun cdv A outer s H hgd hr => ?_⟩
  exact (cb_cons (cs_expr (ce_call G_want_text hgd (hr.mono (by decide)) D_want_text.m D_want_text.F.kp D_want_text.b (ca_cons (ce_var 0) ca_nil)))
      (cb_cons (cs_set 1 nd (ce_ix (ce_call G_words_apart hgd (hr.mono (by decide)) D_words_apart.m D_words_apart.F.kp D_words_apart.b (ca_cons (ce_var 0) ca_nil)) ce_int))
      (cb_cons (cs_expr (ce_call G_want_few_words hgd (hr.mono (by decide)) D_want_few_words.m D_want_few_words.F.kp D_want_few_words.b (ca_cons (ce_var 1) ca_nil)))
      (cb_one (cs_ret (ce_var 1))))))
theorem sc_wrong_sign : FnScope ["text"] ["text"] (defScope s_wrong_sign) := ⟨rfl, rfl, rfl, by decide +kernel, rfl, by decide +kernel, by decide +kernel⟩
theorem ok_wrong_sign (T : Tx K mg) : ∃ f fd, Df K mg "wrong_sign" s_wrong_sign ["text"] f fd ∧ FnG P w K mg base 4 f fd ["text"] F_wrong_sign := by
  obtain ⟨f, fd, D⟩ := T.d_wrong_sign
  obtain ⟨_, _, D_want_text, G_want_text⟩ := ok_want_text (P := P) (w := w) (base := base) T
  obtain ⟨_, _, D_words_apart, G_words_apart⟩ := ok_words_apart (P := P) (w := w) (base := base) T
  have nd := sc_wrong_sign.nd
  refine ⟨f, fd, D, FnG.of (sm := B_wrong_sign) D.F sc_wrong_sign fun cdv A outer s H hgd hr => ?_⟩
  exact (cb_cons (cs_expr (ce_call G_want_text hgd (hr.mono (by decide)) D_want_text.m D_want_text.F.kp D_want_text.b (ca_cons (ce_var 0) ca_nil)))
      (cb_one (cs_ret (ce_ix (ce_call G_words_apart hgd (hr.mono (by decide)) D_words_apart.m D_words_apart.F.kp D_words_apart.b (ca_cons (ce_var 0) ca_nil)) ce_int))))
theorem sc__law_right : FnScope ["pot", "turn", "pieces", "text", "words", "wrong", "told", "late", "there", "piece"] ["pot"] (defScope s__law_right) := ⟨rfl, rfl, rfl, by decide +kernel, rfl, by decide +kernel, by decide +kernel⟩
theorem ok_law_right (T : Tx K mg) : ∃ f fd, Df K mg "_law_right" s__law_right ["pot"] f fd ∧ FnG P w K mg base 5 f fd ["pot"] F_law_right := by
  obtain ⟨f, fd, D⟩ := T.d__law_right
  obtain ⟨_, _, D__law_draw, G__law_draw⟩ := ok_law_draw (P := P) (w := w) (base := base) T
  obtain ⟨_, _, D__law_piece, G__law_piece⟩ := ok_law_piece (P := P) (w := w) (base := base) T
  obtain ⟨_, _, D__law_pick, G__law_pick⟩ := ok_law_pick (P := P) (w := w) (base := base) T
  obtain ⟨_, _, D__law_words, G__law_words⟩ := ok_law_words (P := P) (w := w) (base := base) T
  obtain ⟨_, _, D_text_words, G_text_words⟩ := ok_text_words (P := P) (w := w) (base := base) T
  obtain ⟨_, _, D_wrong_sign, G_wrong_sign⟩ := ok_wrong_sign (P := P) (w := w) (base := base) T
  have z_len := T.z_len
  have z_range := T.z_range
  have z_repr := T.z_repr
  have nd := sc__law_right.nd
  refine ⟨f, fd, D, FnG.of (sm := B_law_right) D.F sc__law_right fun cdv A outer s H hgd hr => ?_⟩
  exact (cb_cons (cs_for PassesOwn.never rfl (ci_rng1 z_range ce_int) (cg_nm 1 nd) (cb_cons (cs_setLc [("piece", 9)] 2 rfl nd (cj_rng1 z_range (ce_call G__law_draw hgd (hr.mono (by decide)) D__law_draw.m D__law_draw.F.kp D__law_draw.b (ca_cons (ce_var 0) (ca_cons ce_int ca_nil)))) (blkOk_by (N := ["pot", "turn", "pieces", "text", "words", "wrong", "told", "late", "there", "piece"]) (sc := defScope s__law_right) (by decide +kernel)) (fun _ _ _ _ _ => (cg_nm 9 nd)) (fun _ _ _ _ _ => cts_nil) (fun _ _ _ _ _ => (ce_call G__law_piece hgd (hr.mono (by decide)) D__law_piece.m D__law_piece.F.kp D__law_piece.b (ca_cons (ce_var 0) ca_nil))) (sw_true rfl rfl rfl (by decide +kernel)))
      (cb_cons (cs_set 3 nd (ce_smeth PySem.F.slot_str_join PySem.F.type_str_join mt_join ms_join (ce_call G__law_pick hgd (hr.mono (by decide)) D__law_pick.m D__law_pick.F.kp D__law_pick.b (ca_cons (ce_var 0) (ca_cons (ce_lst (ca_cons ce_str (ca_cons ce_str (ca_cons ce_str ca_nil)))) ca_nil))) (ca_cons (ce_var 2) ca_nil)))
      (cb_one (cs_if (ct_cmp op_lt ops_lt (ce_callB call_len cs_len z_len (by decide +kernel) (ca_cons (ce_var 3) ca_nil)) ce_int (nomark _)) (cb_cons (cs_unp (ce_call G__law_words hgd (hr.mono (by decide)) D__law_words.m D__law_words.F.kp D__law_words.b (ca_cons (ce_var 3) ca_nil)) (cg_tp rfl (cgs_cons (cg_nm 4 nd) (cgs_cons (cg_nm 5 nd) cgs_nil))))
      (cb_cons (cs_set 6 nd (ce_call G_text_words hgd (hr.mono (by decide)) D_text_words.m D_text_words.F.kp D_text_words.b (ca_cons (ce_var 3) ca_nil)))
      (cb_cons (cs_if (ct_cmp (opr_ne hr.units) ops_ne (ce_callB (call_repr hgd hr) cs_repr z_repr (by decide +kernel) (ca_cons (ce_lst (ca_cons (ce_var 6) (ca_cons (ce_callKw ["text"] [0] G_text_words hgd (hr.mono (by decide)) D_text_words.m D_text_words.F.kp (kw_text_words_0 D_text_words.F) (ck_cons (ce_var 3) ck_nil) (hperm := fun xs hx => match xs, hx with | [_], _ => rfl)) (ca_cons (ce_call G_wrong_sign hgd (hr.mono (by decide)) D_wrong_sign.m D_wrong_sign.F.kp D_wrong_sign.b (ca_cons (ce_var 3) ca_nil)) (ca_cons (ce_callKw ["text"] [0] G_wrong_sign hgd (hr.mono (by decide)) D_wrong_sign.m D_wrong_sign.F.kp (kw_wrong_sign_0 D_wrong_sign.F) (ck_cons (ce_var 3) ck_nil) (hperm := fun xs hx => match xs, hx with | [_], _ => rfl)) ca_nil))))) ca_nil)) (ce_callB (call_repr hgd hr) cs_repr z_repr (by decide +kernel) (ca_cons (ce_lst (ca_cons (ce_var 4) (ca_cons (ce_var 4) (ca_cons (ce_var 5) (ca_cons (ce_var 5) ca_nil))))) ca_nil)) (nomark _)) (cb_one (cs_ret ce_bl)) cb_nil)
      (cb_cons (cs_append 6 ce_non)
      (cb_cons (cs_unp (ce_call G__law_words hgd (hr.mono (by decide)) D__law_words.m D__law_words.F.kp D__law_words.b (ca_cons (ce_bin opr_add ops_add (ce_var 3) ce_str) ca_nil)) (cg_tp rfl (cgs_cons (cg_nm 7 nd) (cgs_cons (cg_nm 8 nd) cgs_nil))))
      (cb_one (cs_if (ct_cmp (opr_ne hr.units) ops_ne (ce_callB (call_repr hgd hr) cs_repr z_repr (by decide +kernel) (ca_cons (ce_lst (ca_cons (ce_call G_text_words hgd (hr.mono (by decide)) D_text_words.m D_text_words.F.kp D_text_words.b (ca_cons (ce_var 3) ca_nil)) (ca_cons (ce_call G_text_words hgd (hr.mono (by decide)) D_text_words.m D_text_words.F.kp D_text_words.b (ca_cons (ce_bin opr_add ops_add (ce_var 3) ce_str) ca_nil)) (ca_cons (ce_call G_wrong_sign hgd (hr.mono (by decide)) D_wrong_sign.m D_wrong_sign.F.kp D_wrong_sign.b (ca_cons (ce_bin opr_add ops_add (ce_var 3) ce_str) ca_nil)) ca_nil)))) ca_nil)) (ce_callB (call_repr hgd hr) cs_repr z_repr (by decide +kernel) (ca_cons (ce_lst (ca_cons (ce_var 4) (ca_cons (ce_var 7) (ca_cons (ce_var 8) ca_nil)))) ca_nil)) (nomark _)) (cb_one (cs_ret ce_bl)) cb_nil))))))) cb_nil)))))
      (cb_one (cs_ret ce_bl)))
end
theorem tx_mk {K : Fg} {h : Heap} {mg : Str → Option Value} (X : K.In h) (G : h.Ns mainGlobals mg)
    {f0 : Addr} {od0 an0 : Option Addr} {sl0 : Array (Option Value)} {oc0 kV0 dc0 pm0 cd0 ct0 : Value}
    {f1 : Addr} {od1 an1 : Option Addr} {sl1 : Array (Option Value)} {oc1 kV1 dc1 pm1 cd1 ct1 : Value}
    {f2 : Addr} {od2 an2 : Option Addr} {sl2 : Array (Option Value)} {oc2 kV2 dc2 pm2 cd2 ct2 : Value}
    {f3 : Addr} {od3 an3 : Option Addr} {sl3 : Array (Option Value)} {oc3 kV3 dc3 pm3 cd3 ct3 : Value}
    {f4 : Addr} {od4 an4 : Option Addr} {sl4 : Array (Option Value)} {oc4 kV4 dc4 pm4 cd4 ct4 : Value}
    {f5 : Addr} {od5 an5 : Option Addr} {sl5 : Array (Option Value)} {oc5 kV5 dc5 pm5 cd5 ct5 : Value}
    {f6 : Addr} {od6 an6 : Option Addr} {sl6 : Array (Option Value)} {oc6 kV6 dc6 pm6 cd6 ct6 : Value}
    {f7 : Addr} {od7 an7 : Option Addr} {sl7 : Array (Option Value)} {oc7 kV7 dc7 pm7 cd7 ct7 : Value}
    {f8 : Addr} {od8 an8 : Option Addr} {sl8 : Array (Option Value)} {oc8 kV8 dc8 pm8 cd8 ct8 : Value}
    {f9 : Addr} {od9 an9 : Option Addr} {sl9 : Array (Option Value)} {oc9 kV9 dc9 pm9 cd9 ct9 : Value}
    {f10 : Addr} {od10 an10 : Option Addr} {sl10 : Array (Option Value)} {oc10 kV10 dc10 pm10 cd10 ct10 : Value}
    {f11 : Addr} {od11 an11 : Option Addr} {sl11 : Array (Option Value)} {oc11 kV11 dc11 pm11 cd11 ct11 : Value}
    {f12 : Addr} {od12 an12 : Option Addr} {sl12 : Array (Option Value)} {oc12 kV12 dc12 pm12 cd12 ct12 : Value}
    {f13 : Addr} {od13 an13 : Option Addr} {sl13 : Array (Option Value)} {oc13 kV13 dc13 pm13 cd13 ct13 : Value}
    {f14 : Addr} {od14 an14 : Option Addr} {sl14 : Array (Option Value)} {oc14 kV14 dc14 pm14 cd14 ct14 : Value}
    {f15 : Addr} {od15 an15 : Option Addr} {sl15 : Array (Option Value)} {oc15 kV15 dc15 pm15 cd15 ct15 : Value}
    {f16 : Addr} {od16 an16 : Option Addr} {sl16 : Array (Option Value)} {oc16 kV16 dc16 pm16 cd16 ct16 : Value}
    {f17 : Addr} {od17 an17 : Option Addr} {sl17 : Array (Option Value)} {oc17 kV17 dc17 pm17 cd17 ct17 : Value}
    {t0 : Tok}
    {t1 : Tok}
    {t2 : Tok}
    {t3 : Tok}
    {t4 : Tok}
    {t5 : Tok}
    {t6 : Tok}
    (a0 : PySem.W.nsIn K mainGlobals "_law_draw" = some (some (.ref f0)))
    (l0 : K.lookup f0 = some ⟨oc0, od0, .func (PySem.W.fnOf "_law_draw" "_law_draw" (defArgs s__law_draw) (defBody s__law_draw) (defScope s__law_draw) .none kV0 dc0 pm0 an0 cd0 ct0), sl0⟩)
    (c0 : PySem.W.codeIn K cd0 "_law_draw" = true) (k0 : PySem.W.keepIn K (.ref f0) = true)
    (a1 : PySem.W.nsIn K mainGlobals "_law_pick" = some (some (.ref f1)))
    (l1 : K.lookup f1 = some ⟨oc1, od1, .func (PySem.W.fnOf "_law_pick" "_law_pick" (defArgs s__law_pick) (defBody s__law_pick) (defScope s__law_pick) .none kV1 dc1 pm1 an1 cd1 ct1), sl1⟩)
    (c1 : PySem.W.codeIn K cd1 "_law_pick" = true) (k1 : PySem.W.keepIn K (.ref f1) = true)
    (a2 : PySem.W.nsIn K mainGlobals "_law_piece" = some (some (.ref f2)))
    (l2 : K.lookup f2 = some ⟨oc2, od2, .func (PySem.W.fnOf "_law_piece" "_law_piece" (defArgs s__law_piece) (defBody s__law_piece) (defScope s__law_piece) .none kV2 dc2 pm2 an2 cd2 ct2), sl2⟩)
    (c2 : PySem.W.codeIn K cd2 "_law_piece" = true) (k2 : PySem.W.keepIn K (.ref f2) = true)
    (a3 : PySem.W.nsIn K mainGlobals "_law_size" = some (some (.ref f3)))
    (l3 : K.lookup f3 = some ⟨oc3, od3, .func (PySem.W.fnOf "_law_size" "_law_size" (defArgs s__law_size) (defBody s__law_size) (defScope s__law_size) .none kV3 dc3 pm3 an3 cd3 ct3), sl3⟩)
    (c3 : PySem.W.codeIn K cd3 "_law_size" = true) (k3 : PySem.W.keepIn K (.ref f3) = true)
    (a4 : PySem.W.nsIn K mainGlobals "_law_words" = some (some (.ref f4)))
    (l4 : K.lookup f4 = some ⟨oc4, od4, .func (PySem.W.fnOf "_law_words" "_law_words" (defArgs s__law_words) (defBody s__law_words) (defScope s__law_words) .none kV4 dc4 pm4 an4 cd4 ct4), sl4⟩)
    (c4 : PySem.W.codeIn K cd4 "_law_words" = true) (k4 : PySem.W.keepIn K (.ref f4) = true)
    (a5 : PySem.W.nsIn K mainGlobals "is_text_any" = some (some (.ref f5)))
    (l5 : K.lookup f5 = some ⟨oc5, od5, .func (PySem.W.fnOf "is_text_any" "is_text_any" (defArgs s_is_text_any) (defBody s_is_text_any) (defScope s_is_text_any) .none kV5 dc5 pm5 an5 cd5 ct5), sl5⟩)
    (c5 : PySem.W.codeIn K cd5 "is_text_any" = true) (k5 : PySem.W.keepIn K (.ref f5) = true)
    (a6 : PySem.W.nsIn K mainGlobals "want_text" = some (some (.ref f6)))
    (l6 : K.lookup f6 = some ⟨oc6, od6, .func (PySem.W.fnOf "want_text" "want_text" (defArgs s_want_text) (defBody s_want_text) (defScope s_want_text) .none kV6 dc6 pm6 an6 cd6 ct6), sl6⟩)
    (c6 : PySem.W.codeIn K cd6 "want_text" = true) (k6 : PySem.W.keepIn K (.ref f6) = true)
    (a7 : PySem.W.nsIn K mainGlobals "want_few_words" = some (some (.ref f7)))
    (l7 : K.lookup f7 = some ⟨oc7, od7, .func (PySem.W.fnOf "want_few_words" "want_few_words" (defArgs s_want_few_words) (defBody s_want_few_words) (defScope s_want_few_words) .none kV7 dc7 pm7 an7 cd7 ct7), sl7⟩)
    (c7 : PySem.W.codeIn K cd7 "want_few_words" = true) (k7 : PySem.W.keepIn K (.ref f7) = true)
    (a8 : PySem.W.nsIn K mainGlobals "remark_end" = some (some (.ref f8)))
    (l8 : K.lookup f8 = some ⟨oc8, od8, .func (PySem.W.fnOf "remark_end" "remark_end" (defArgs s_remark_end) (defBody s_remark_end) (defScope s_remark_end) .none kV8 dc8 pm8 an8 cd8 ct8), sl8⟩)
    (c8 : PySem.W.codeIn K cd8 "remark_end" = true) (k8 : PySem.W.keepIn K (.ref f8) = true)
    (a9 : PySem.W.nsIn K mainGlobals "run_size" = some (some (.ref f9)))
    (l9 : K.lookup f9 = some ⟨oc9, od9, .func (PySem.W.fnOf "run_size" "run_size" (defArgs s_run_size) (defBody s_run_size) (defScope s_run_size) .none kV9 dc9 pm9 an9 cd9 ct9), sl9⟩)
    (c9 : PySem.W.codeIn K cd9 "run_size" = true) (k9 : PySem.W.keepIn K (.ref f9) = true)
    (a10 : PySem.W.nsIn K mainGlobals "is_run_word" = some (some (.ref f10)))
    (l10 : K.lookup f10 = some ⟨oc10, od10, .func (PySem.W.fnOf "is_run_word" "is_run_word" (defArgs s_is_run_word) (defBody s_is_run_word) (defScope s_is_run_word) .none kV10 dc10 pm10 an10 cd10 ct10), sl10⟩)
    (c10 : PySem.W.codeIn K cd10 "is_run_word" = true) (k10 : PySem.W.keepIn K (.ref f10) = true)
    (a11 : PySem.W.nsIn K mainGlobals "text_word_size" = some (some (.ref f11)))
    (l11 : K.lookup f11 = some ⟨oc11, od11, .func (PySem.W.fnOf "text_word_size" "text_word_size" (defArgs s_text_word_size) (defBody s_text_word_size) (defScope s_text_word_size) .none kV11 dc11 pm11 an11 cd11 ct11), sl11⟩)
    (c11 : PySem.W.codeIn K cd11 "text_word_size" = true) (k11 : PySem.W.keepIn K (.ref f11) = true)
    (a12 : PySem.W.nsIn K mainGlobals "words_apart" = some (some (.ref f12)))
    (l12 : K.lookup f12 = some ⟨oc12, od12, .func (PySem.W.fnOf "words_apart" "words_apart" (defArgs s_words_apart) (defBody s_words_apart) (defScope s_words_apart) .none kV12 dc12 pm12 an12 cd12 ct12), sl12⟩)
    (c12 : PySem.W.codeIn K cd12 "words_apart" = true) (k12 : PySem.W.keepIn K (.ref f12) = true)
    (a13 : PySem.W.nsIn K mainGlobals "text_words" = some (some (.ref f13)))
    (l13 : K.lookup f13 = some ⟨oc13, od13, .func (PySem.W.fnOf "text_words" "text_words" (defArgs s_text_words) (defBody s_text_words) (defScope s_text_words) .none kV13 dc13 pm13 an13 cd13 ct13), sl13⟩)
    (c13 : PySem.W.codeIn K cd13 "text_words" = true) (k13 : PySem.W.keepIn K (.ref f13) = true)
    (a14 : PySem.W.nsIn K mainGlobals "wrong_sign" = some (some (.ref f14)))
    (l14 : K.lookup f14 = some ⟨oc14, od14, .func (PySem.W.fnOf "wrong_sign" "wrong_sign" (defArgs s_wrong_sign) (defBody s_wrong_sign) (defScope s_wrong_sign) .none kV14 dc14 pm14 an14 cd14 ct14), sl14⟩)
    (c14 : PySem.W.codeIn K cd14 "wrong_sign" = true) (k14 : PySem.W.keepIn K (.ref f14) = true)
    (a15 : PySem.W.nsIn K mainGlobals "_law_right" = some (some (.ref f15)))
    (l15 : K.lookup f15 = some ⟨oc15, od15, .func (PySem.W.fnOf "_law_right" "_law_right" (defArgs s__law_right) (defBody s__law_right) (defScope s__law_right) .none kV15 dc15 pm15 an15 cd15 ct15), sl15⟩)
    (c15 : PySem.W.codeIn K cd15 "_law_right" = true) (k15 : PySem.W.keepIn K (.ref f15) = true)
    (a16 : PySem.W.nsIn K mainGlobals "_law_pot" = some (some (.ref f16)))
    (l16 : K.lookup f16 = some ⟨oc16, od16, .func (PySem.W.fnOf "_law_pot" "_law_pot" (defArgs s__law_pot) (defBody s__law_pot) (defScope s__law_pot) .none kV16 dc16 pm16 an16 cd16 ct16), sl16⟩)
    (c16 : PySem.W.codeIn K cd16 "_law_pot" = true) (k16 : PySem.W.keepIn K (.ref f16) = true)
    (a17 : PySem.W.nsIn K mainGlobals "law" = some (some (.ref f17)))
    (l17 : K.lookup f17 = some ⟨oc17, od17, .func (PySem.W.fnOf "law" "law" (defArgs s_law) (defBody s_law) (defScope s_law) .none kV17 dc17 pm17 an17 cd17 ct17), sl17⟩)
    (c17 : PySem.W.codeIn K cd17 "law" = true) (k17 : PySem.W.keepIn K (.ref f17) = true)
    (z0 : PySem.W.nsIn K mainGlobals "abs" = some none)
    (z1 : PySem.W.nsIn K mainGlobals "all" = some none)
    (z2 : PySem.W.nsIn K mainGlobals "divmod" = some none)
    (z3 : PySem.W.nsIn K mainGlobals "enumerate" = some none)
    (z4 : PySem.W.nsIn K mainGlobals "int" = some none)
    (z5 : PySem.W.nsIn K mainGlobals "isinstance" = some none)
    (z6 : PySem.W.nsIn K mainGlobals "len" = some none)
    (z7 : PySem.W.nsIn K mainGlobals "max" = some none)
    (z8 : PySem.W.nsIn K mainGlobals "min" = some none)
    (z9 : PySem.W.nsIn K mainGlobals "range" = some none)
    (z10 : PySem.W.nsIn K mainGlobals "repr" = some none)
    (z11 : PySem.W.nsIn K mainGlobals "str" = some none)
    (g0 : PySem.W.nsIn K mainGlobals "FIGURES" = some (some (.str (Str.ofString "0123456789") t0)))
    (g1 : PySem.W.nsIn K mainGlobals "LETTERS" = some (some (.str (Str.ofString "abcdefghijklmnopqrstuvwxyz") t1)))
    (g2 : PySem.W.nsIn K mainGlobals "MOST_CELLS" = some (some (.int 4096 t2)))
    (g3 : PySem.W.nsIn K mainGlobals "MOST_NAME" = some (some (.int 12 t3)))
    (g4 : PySem.W.nsIn K mainGlobals "MOST_TEXT_SIGNS" = some (some (.int 60000 t4)))
    (g5 : PySem.W.nsIn K mainGlobals "MOST_TEXT_WORDS" = some (some (.int 12000 t5)))
    (g6 : PySem.W.nsIn K mainGlobals "TEXT_SIGNS" = some (some (.str (Str.ofString "(),.=<+-*[]") t6)))
    : Tx K mg where
  d__law_draw := ⟨f0, _, ⟨fun_mk (st := s__law_draw) l0 c0 k0, PySem.W.mg_of X G a0, (fun_mk (st := s__law_draw) l0 c0 k0).binds fun _ _ _ _ _ _ us hl => match us, hl with | [_, _], _ => rfl⟩⟩
  d__law_pick := ⟨f1, _, ⟨fun_mk (st := s__law_pick) l1 c1 k1, PySem.W.mg_of X G a1, (fun_mk (st := s__law_pick) l1 c1 k1).binds fun _ _ _ _ _ _ us hl => match us, hl with | [_, _], _ => rfl⟩⟩
  d__law_piece := ⟨f2, _, ⟨fun_mk (st := s__law_piece) l2 c2 k2, PySem.W.mg_of X G a2, (fun_mk (st := s__law_piece) l2 c2 k2).binds fun _ _ _ _ _ _ us hl => match us, hl with | [_], _ => rfl⟩⟩
  d__law_size := ⟨f3, _, ⟨fun_mk (st := s__law_size) l3 c3 k3, PySem.W.mg_of X G a3, (fun_mk (st := s__law_size) l3 c3 k3).binds fun _ _ _ _ _ _ us hl => match us, hl with | [_, _], _ => rfl⟩⟩
  d__law_words := ⟨f4, _, ⟨fun_mk (st := s__law_words) l4 c4 k4, PySem.W.mg_of X G a4, (fun_mk (st := s__law_words) l4 c4 k4).binds fun _ _ _ _ _ _ us hl => match us, hl with | [_], _ => rfl⟩⟩
  d_is_text_any := ⟨f5, _, ⟨fun_mk (st := s_is_text_any) l5 c5 k5, PySem.W.mg_of X G a5, (fun_mk (st := s_is_text_any) l5 c5 k5).binds fun _ _ _ _ _ _ us hl => match us, hl with | [_], _ => rfl⟩⟩
  d_want_text := ⟨f6, _, ⟨fun_mk (st := s_want_text) l6 c6 k6, PySem.W.mg_of X G a6, (fun_mk (st := s_want_text) l6 c6 k6).binds fun _ _ _ _ _ _ us hl => match us, hl with | [_], _ => rfl⟩⟩
  d_want_few_words := ⟨f7, _, ⟨fun_mk (st := s_want_few_words) l7 c7 k7, PySem.W.mg_of X G a7, (fun_mk (st := s_want_few_words) l7 c7 k7).binds fun _ _ _ _ _ _ us hl => match us, hl with | [_], _ => rfl⟩⟩
  d_remark_end := ⟨f8, _, ⟨fun_mk (st := s_remark_end) l8 c8 k8, PySem.W.mg_of X G a8, (fun_mk (st := s_remark_end) l8 c8 k8).binds fun _ _ _ _ _ _ us hl => match us, hl with | [_, _], _ => rfl⟩⟩
  d_run_size := ⟨f9, _, ⟨fun_mk (st := s_run_size) l9 c9 k9, PySem.W.mg_of X G a9, (fun_mk (st := s_run_size) l9 c9 k9).binds fun _ _ _ _ _ _ us hl => match us, hl with | [_, _], _ => rfl⟩⟩
  d_is_run_word := ⟨f10, _, ⟨fun_mk (st := s_is_run_word) l10 c10 k10, PySem.W.mg_of X G a10, (fun_mk (st := s_is_run_word) l10 c10 k10).binds fun _ _ _ _ _ _ us hl => match us, hl with | [_], _ => rfl⟩⟩
  d_text_word_size := ⟨f11, _, ⟨fun_mk (st := s_text_word_size) l11 c11 k11, PySem.W.mg_of X G a11, (fun_mk (st := s_text_word_size) l11 c11 k11).binds fun _ _ _ _ _ _ us hl => match us, hl with | [_, _], _ => rfl⟩⟩
  d_words_apart := ⟨f12, _, ⟨fun_mk (st := s_words_apart) l12 c12 k12, PySem.W.mg_of X G a12, (fun_mk (st := s_words_apart) l12 c12 k12).binds fun _ _ _ _ _ _ us hl => match us, hl with | [_], _ => rfl⟩⟩
  d_text_words := ⟨f13, _, ⟨fun_mk (st := s_text_words) l13 c13 k13, PySem.W.mg_of X G a13, (fun_mk (st := s_text_words) l13 c13 k13).binds fun _ _ _ _ _ _ us hl => match us, hl with | [_], _ => rfl⟩⟩
  d_wrong_sign := ⟨f14, _, ⟨fun_mk (st := s_wrong_sign) l14 c14 k14, PySem.W.mg_of X G a14, (fun_mk (st := s_wrong_sign) l14 c14 k14).binds fun _ _ _ _ _ _ us hl => match us, hl with | [_], _ => rfl⟩⟩
  d__law_right := ⟨f15, _, ⟨fun_mk (st := s__law_right) l15 c15 k15, PySem.W.mg_of X G a15, (fun_mk (st := s__law_right) l15 c15 k15).binds fun _ _ _ _ _ _ us hl => match us, hl with | [_], _ => rfl⟩⟩
  d__law_pot := ⟨f16, _, ⟨fun_mk (st := s__law_pot) l16 c16 k16, PySem.W.mg_of X G a16, (fun_mk (st := s__law_pot) l16 c16 k16).binds fun _ _ _ _ _ _ us hl => match us, hl with | [_, _], _ => rfl⟩⟩
  d_law := ⟨f17, _, ⟨fun_mk (st := s_law) l17 c17 k17, PySem.W.mg_of X G a17, (fun_mk (st := s_law) l17 c17 k17).binds fun _ _ _ _ _ _ us hl => match us, hl with | [_], _ => rfl⟩⟩
  z_abs := PySem.W.mg_none_of X G z0
  z_all := PySem.W.mg_none_of X G z1
  z_divmod := PySem.W.mg_none_of X G z2
  z_enumerate := PySem.W.mg_none_of X G z3
  z_int := PySem.W.mg_none_of X G z4
  z_isinstance := PySem.W.mg_none_of X G z5
  z_len := PySem.W.mg_none_of X G z6
  z_max := PySem.W.mg_none_of X G z7
  z_min := PySem.W.mg_none_of X G z8
  z_range := PySem.W.mg_none_of X G z9
  z_repr := PySem.W.mg_none_of X G z10
  z_str := PySem.W.mg_none_of X G z11
  g_FIGURES := ⟨_, PySem.W.mg_of X G g0⟩
  g_LETTERS := ⟨_, PySem.W.mg_of X G g1⟩
  g_MOST_CELLS := ⟨_, PySem.W.mg_of X G g2⟩
  g_MOST_NAME := ⟨_, PySem.W.mg_of X G g3⟩
  g_MOST_TEXT_SIGNS := ⟨_, PySem.W.mg_of X G g4⟩
  g_MOST_TEXT_WORDS := ⟨_, PySem.W.mg_of X G g5⟩
  g_TEXT_SIGNS := ⟨_, PySem.W.mg_of X G g6⟩
end K11
namespace K11
open PySem PySem.Spec PyProof.Rows L2 Pu
/-! ### the pot, the law -/
def Keeps (H H' : Hp) : Prop := ∀ b x, H b = some x → H' b = some x
theorem keeps_seq {K : Fg} {H H' : Hp} {a : Addr} {xs : List V} (k : Keeps H H') (h : SqL K H a xs) : SqL K H' a xs := by
  rcases h with (h | ⟨o, h⟩) | h
  · exact .inl (.inl (k _ _ h))
  · exact .inl (.inr ⟨o, k _ _ h⟩)
  · exact .inr h
def spPot (K : Fg) : SpS := fun vs H Q => ∃ (a : Addr) (ns : List Int) (k : Nat), vs = [.ref a, .int k] ∧ SqL K H a (ns.map V.int) ∧ ns.length ≤ 1000 ∧ k ≤ 1000 ∧ ∀ H' p x y, Keeps H H' → H p = none → H' p = some (.lst [.int x, .int y]) → Q (.ref p) H'
def spLaw (K : Fg) : SpS := fun vs H Q => ∃ (a : Addr) (ns : List Int), vs = [.ref a] ∧ SqL K H a (ns.map V.int) ∧ ns.length ≤ 1000 ∧ ∀ H', Q (.bl true) H'
def tCell (K : Fg) : TE := fun σ H Q => (∃ (a : Addr) (ns : List Int) (k : Nat), σ[0]? = some (some (.ref a)) ∧ σ[1]? = some (some (.int k)) ∧ SqL K H a (ns.map V.int) ∧ ns.length ≤ 1000 ∧ k ≤ 1000) ∧ ∀ c : Int, Q (.int c) H
theorem pe_cell {X : Cx} {e : Expr} {t : TE} (h : PE X e t) (i : ∀ σ H Q, tCell X.K σ H Q → t σ H Q) : PE X e (tCell X.K) := PEimp h i
theorem pos_of {c j : Int} (h : 0 < j) : (fun _ j => 0 < j : Int → Int → Prop) c j := h
theorem scP : FnScope ["script", "k", "cell"] ["script", "k"] (defScope s__law_pot) := ⟨rfl, rfl, rfl, by decide +kernel, rfl, by decide +kernel, by decide +kernel⟩
theorem scL : FnScope ["script", "k"] ["script"] (defScope s_law) := ⟨rfl, rfl, rfl, by decide +kernel, rfl, by decide +kernel, by decide +kernel⟩
section
variable {P : Program} {w : World} {K : Fg} {mg : Str → Option Value} {base : Heap}
theorem ok_pot (T : Tx K mg) : ∃ f fd, Df K mg "_law_pot" s__law_pot ["script", "k"] f fd ∧ FnS P w K mg base 1 f fd ["script", "k"] (spPot K) := by
  obtain ⟨f, fd, D⟩ := T.d__law_pot
  have z_len := T.z_len
  have z_abs := T.z_abs
  have z_max := T.z_max
  have z_int := T.z_int
  refine ⟨f, fd, D, FnS.of D.F scP (fun vs H Q ⟨a, ns, k, e, _⟩ => by rw [e]; rfl) fun cdv A outer s H vs Q hgd hr h => ?_⟩
  obtain ⟨a, ns, k, rfl, hS, hl, hk, q⟩ := h
  refine ⟨_, pss_cons (ps_set (i := 2) scP.nd rfl (.inl rfl) (pe_cell (pe_ifExp (pt_cmpR op_lt (pv 1) (pe_callB call_len rfl z_len (by decide +kernel) (pa_cons (pv 0) pa_nil)) (nomark _))
      (pe_callB call_abs rfl z_abs (by decide +kernel) (pa_cons (pe_ix ix_list (pv 0) (pv 1) (fun _ _ => rfl)) pa_nil)) (pe_op op_add (pe_op op_mul pe_int (pv 1)) pe_int)) fun σ H Q h => ?_))
    (pss_one (ps_ret (pe_lst (pa_cons (pe_callB (call_max2 rfl) rfl z_max (by decide +kernel) (pa_cons pe_int (pa_cons (pe_op op_sub (pv 2) (pe_op op_pow pe_int pe_int)) pa_nil)))
      (pa_cons (pe_op op_add (pe_op op_mod (pe_callTy call_int1 rfl z_int (by decide +kernel) (pa_cons (pe_op op_add (pe_op op_add (pe_op op_mul (pe_op op_mod (pe_callTy call_int1 rfl z_int (by decide +kernel) (pa_cons (pv 2) pa_nil)) pe_int) pe_int) (pe_op op_mul pe_int (pv 1))) pe_int) pa_nil)) pe_int) pe_int) pa_nil))))), ?_⟩
  · obtain ⟨⟨a, ns, k, h0, h1, hS, hl, hk⟩, q⟩ := h
    refine ⟨.int k, h1, .ref a, h0, .ref a, _, rfl, .inl ⟨_, hS, rfl⟩, _, _, rfl, rfl, _, rfl, ite2 (fun e => ?_) (fun e => ?_)⟩
    · have e1 : (k : Int) < ((ns.map V.int).length : Nat) := of_decide_eq_true e
      have e2 : k < ns.length := by
        rw [List.length_map] at e1
        omega
      refine ⟨.ref a, h0, .int k, h1, a, _, k, .int ns[k], rfl, rfl, hS, atI_nat (by rw [List.getElem?_map, List.getElem?_eq_getElem e2]; rfl), _, rfl, q _⟩
    · refine ⟨.int k, h1, _, _, rfl, rfl, .inl ⟨by decide, by decide⟩, _, _, rfl, rfl, q _⟩
  · refine ⟨⟨a, ns, k, rfl, rfl, hS, hl, hk⟩, fun c => ?_⟩
    refine ⟨.int c, rfl, _, _, rfl, rfl, ⟨by decide, by decide, by decide⟩, _, _, rfl, rfl, _, _, rfl, ?_⟩
    refine ⟨.int c, rfl, .inl ⟨c, rfl, _, _, rfl, rfl, (by show (0 : Int) < _; decide), _, _, rfl, rfl, .inr ⟨by decide, by decide⟩, .int k, rfl, _, _, rfl, rfl, .inl ⟨by decide, by decide⟩, _, _, rfl, rfl, _, _, rfl, rfl, .inl ⟨_, rfl, _, _, rfl, rfl, (by show (0 : Int) < _; decide), _, _, rfl, rfl, ?_⟩⟩⟩
    refine ⟨(by decide : 2 ≤ sizeLine), fun p np => ?_⟩
    exact q _ p _ _ (fun b x e => by rw [upd_ne (ne_of_none e np)]; exact e) np upd_same
theorem ok_law {f : Addr} {fd : FuncData} (T : Tx K mg) (D : Df K mg "law" s_law ["script"] f fd) (math : ∀ p : Pot, ∃ p', F_law_right [.pot] p = some (.sh (.bool true), p')) : FnS P w K mg base 6 f fd ["script"] (spLaw K) := by
  obtain ⟨_, _, Dp, Gp⟩ := ok_pot (P := P) (w := w) (base := base) T
  obtain ⟨_, _, Dr, Gr⟩ := ok_law_right (P := P) (w := w) (base := base) T
  have Gr := Gr.toS
  have z_len := T.z_len
  have z_all := T.z_all
  have z_max := T.z_max
  have z_min := T.z_min
  have z_range := T.z_range
  have nd := scL.nd
  refine FnS.of D.F scL (fun vs H Q ⟨a, ns, e, _⟩ => by rw [e]; rfl) fun cdv A outer s H vs Q hgd hr h => ?_
  obtain ⟨a, ns, rfl, hS, hl, q⟩ := h
  refine ⟨_, pss_one (ps_ret (pe_callB (cr_all rfl) rfl z_all (by decide +kernel) (pa_cons (pe_lc (own := [("k", 1)]) rfl nd
      (pi_range1 rfl z_range (pa_cons (pe_callB (call_max2 rfl) rfl z_max (by decide +kernel) (pa_cons pe_int (pa_cons (pe_callB (call_min2 rfl) rfl z_min (by decide +kernel) (pa_cons pe_int (pa_cons (pe_callB call_len rfl z_len (by decide +kernel) (pa_cons (pv 0) pa_nil)) pa_nil))) pa_nil))) pa_nil))
      (blkOk_by (N := ["script", "k"]) (sc := defScope s_law) (by decide +kernel)) (fun _ _ _ _ _ => pg_name (i := 1) nd rfl (.inl rfl)) (fun _ _ _ _ _ => pts_nil)
      (fun _ _ _ _ _ => pe_callS Gr hgd (hr.mono (by decide)) Dr.m Dr.F.kp Dr.b (pa_cons (pe_callS Gp hgd (hr.mono (by decide)) Dp.m Dp.F.kp Dp.b (pa_cons (pv 0) (pa_cons (pv 1) pa_nil))) pa_nil))) pa_nil))), ?_⟩
  refine ⟨.ref a, rfl, .ref a, _, rfl, .inl ⟨_, hS, rfl⟩, ?_⟩
  rw [List.length_map]
  refine ⟨_, _, rfl, _, _, rfl, _, rfl, by omega, by omega, fun L nL => ?_⟩
  have k0 : Keeps H (upd H L (.lst [])) := fun b x e => by rw [upd_ne (ne_of_none e nL)]; exact e
  generalize hn : (if (if (ns.length : Int) < 2 then (ns.length : Int) else 2) > 1 then (if (ns.length : Int) < 2 then (ns.length : Int) else 2) else 1).toNat = n
  have hn2 : n ≤ 2 := by omega
  clear hn
  refine ⟨fun i m H' => m = n - i ∧ i ≤ n ∧ ∃ bs : List Bool, H' L = some (.lst (bs.map V.bl)) ∧ bs.length = i ∧ (∀ b ∈ bs, b = true) ∧ Keeps H H',
    ⟨n, by simp, Nat.zero_le _, [], upd_same, rfl, (fun b hb => by simp at hb), k0⟩, fun i m H' hW => ?_⟩
  obtain ⟨rfl, hi, bs, hL, hbl, hbt, kH⟩ := hW
  have hS' := keeps_seq kH hS
  by_cases hlt : i < n
  · refine .inr ⟨hlt, fun H2 => ∃ bs : List Bool, H2 L = some (.lst (bs.map V.bl)) ∧ bs.length = i + 1 ∧ (∀ b ∈ bs, b = true) ∧ Keeps H H2, fun H2 hN => ⟨n - (i + 1), by omega, rfl, hlt, hN⟩, fun x H2 hy => ?_⟩
    obtain ⟨rfl, rfl⟩ := hy
    refine ⟨rfl, ?_⟩
    refine ⟨.ref a, rfl, .int (0 + i), rfl, a, ns, i, by rw [Int.zero_add], hS', hl, by omega, fun H3 p x y k3 np hp => ?_⟩
    obtain ⟨p', hm⟩ := math (x, y)
    refine ⟨rfl, p, fun b => b = p, [.pot], (x, y), _, p', fun b hb => (by rw [hb, hp]; exact fun z => nomatch z), rfl, hp, ⟨rfl, True.intro⟩, hm, fun v H4 hr4 => ?_⟩
    obtain ⟨k4, _, rd⟩ := hr4
    have ev : v = .bl true := by simpa only [RD] using rd
    subst ev
    have nLp : L ≠ p := ne_of_none hL np
    have k34 : ∀ b x, b ≠ p → H3 b = some x → H4 b = some x := k4
    have s4 : Keeps H2 H4 := fun b x e => k34 b x (ne_of_none e np) (k3 b x e)
    refine ⟨_, s4 _ _ hL, by rw [List.length_map, hbl]; exact Nat.lt_of_lt_of_le (show i < 2 by omega) (by decide), bs ++ [true], by rw [upd_same, List.map_append]; rfl, by rw [List.length_append, hbl]; rfl, fun b hb => ?_, ?_⟩
    · rcases List.mem_append.mp hb with hb | hb
      · exact hbt b hb
      · simpa using hb
    · exact fun b x e => by rw [upd_ne (ne_of_none e nL)]; exact s4 _ _ (kH _ _ e)
  · have ei : i = n := by omega
    refine .inl ⟨by show n ≤ i; omega, L, bs, rfl, .inl (.inl hL), ?_⟩
    have eb : bs.all id = true := List.all_eq_true.mpr hbt
    rw [eb]
    exact q _
theorem top_law {K : Fg} {mg : Str → Option Value} {P : Program} {w : World} {fa : Addr} (T : Tx K mg) (hfa : mg "law" = some (.ref fa)) (math : ∀ p : Pot, ∃ p', F_law_right [.pot] p = some (.sh (.bool true), p')) :
    ∃ fd : FuncData, (∀ (s : Shared) (u : Value), BindsTo s fd ⟨[u], []⟩ [("script", u)]) ∧ ∀ base : Heap, K.In base → base.Ns mainGlobals mg → FnS P w K mg base 6 fa fd ["script"] (spLaw K) := by
  obtain ⟨f, fd, D⟩ := T.d_law
  have e := hfa.symm.trans D.m
  cases e
  refine ⟨fd, fun s u => ?_, fun base _ _ => ok_law T D math⟩
  obtain ⟨oc, od, kV, doc, pm, an, cdv, ct, osl, rfl, lk, hcd⟩ := D.F.ex
  exact .of_eq rfl
end
end K11
open PySem PySem.W PyProof.Rows
set_option maxHeartbeats 0 in
theorem PySem.Challenge.cw_nearcells_k11_whole_words_of_texts_holds : PySem.Challenge.rw_nearcells_k11_whole_words_of_texts.Holds := by
  w_on; o_law; k_head; (case hw => w_witness2)
  k_fill
  refine Pu.walk_law (l := PySem.Challenge.rw_nearcells_k11_whole_words_of_texts) (n := 63) (k := 6) (x := "script") (sp := fun w => K11.spLaw _) rfl (by decide) rfl ⟨rfl, by decide, by decide⟩ (fun w h Y => PySem.W.kIn_of Y) ?F (fun _ _ a ns hl _ hS => ⟨a, ns, rfl, hS, by omega, fun _ => rfl⟩)
  case F =>
    intro w mg fa h KX G hmg
    refine K11.top_law ?tx hmg K11.math
    case tx =>
      refine' K11.tx_mk KX G ?a0 ?l0 ?c0 ?k0 ?a1 ?l1 ?c1 ?k1 ?a2 ?l2 ?c2 ?k2 ?a3 ?l3 ?c3 ?k3 ?a4 ?l4 ?c4 ?k4 ?a5 ?l5 ?c5 ?k5 ?a6 ?l6 ?c6 ?k6 ?a7 ?l7 ?c7 ?k7 ?a8 ?l8 ?c8 ?k8 ?a9 ?l9 ?c9 ?k9 ?a10 ?l10 ?c10 ?k10 ?a11 ?l11 ?c11 ?k11 ?a12 ?l12 ?c12 ?k12 ?a13 ?l13 ?c13 ?k13 ?a14 ?l14 ?c14 ?k14 ?a15 ?l15 ?c15 ?k15 ?a16 ?l16 ?c16 ?k16 ?a17 ?l17 ?c17 ?k17 ?z0 ?z1 ?z2 ?z3 ?z4 ?z5 ?z6 ?z7 ?z8 ?z9 ?z10 ?z11 ?gq0 ?gq1 ?gq2 ?gq3 ?gq4 ?gq5 ?gq6
      (case a0 => k_is); (case l0 => k_is); (case c0 => k_is); (case k0 => k_is); (case a1 => k_is); (case l1 => k_is); (case c1 => k_is); (case k1 => k_is)
      (case a2 => k_is); (case l2 => k_is); (case c2 => k_is); (case k2 => k_is); (case a3 => k_is); (case l3 => k_is); (case c3 => k_is); (case k3 => k_is)
      (case a4 => k_is); (case l4 => k_is); (case c4 => k_is); (case k4 => k_is); (case a5 => k_is); (case l5 => k_is); (case c5 => k_is); (case k5 => k_is)
      (case a6 => k_is); (case l6 => k_is); (case c6 => k_is); (case k6 => k_is); (case a7 => k_is); (case l7 => k_is); (case c7 => k_is); (case k7 => k_is)
      (case a8 => k_is); (case l8 => k_is); (case c8 => k_is); (case k8 => k_is); (case a9 => k_is); (case l9 => k_is); (case c9 => k_is); (case k9 => k_is)
      (case a10 => k_is); (case l10 => k_is); (case c10 => k_is); (case k10 => k_is); (case a11 => k_is); (case l11 => k_is); (case c11 => k_is); (case k11 => k_is)
      (case a12 => k_is); (case l12 => k_is); (case c12 => k_is); (case k12 => k_is); (case a13 => k_is); (case l13 => k_is); (case c13 => k_is); (case k13 => k_is)
      (case a14 => k_is); (case l14 => k_is); (case c14 => k_is); (case k14 => k_is); (case a15 => k_is); (case l15 => k_is); (case c15 => k_is); (case k15 => k_is)
      (case a16 => k_is); (case l16 => k_is); (case c16 => k_is); (case k16 => k_is); (case a17 => k_is); (case l17 => k_is); (case c17 => k_is); (case k17 => k_is)
      (case z0 => k_is); (case z1 => k_is); (case z2 => k_is); (case z3 => k_is); (case z4 => k_is); (case z5 => k_is); (case z6 => k_is); (case z7 => k_is)
      (case z8 => k_is); (case z9 => k_is); (case z10 => k_is); (case z11 => k_is); (case gq0 => k_is); (case gq1 => k_is); (case gq2 => k_is); (case gq3 => k_is)
      (case gq4 => k_is); (case gq5 => k_is); (case gq6 => k_is)
