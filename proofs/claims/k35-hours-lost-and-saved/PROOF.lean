import PyProof.Rows.All
import Wide.All
import OpenK.AllK
import Wide.FinOn
import HandS.ForMost
import HandS.Deep
import HandS.Wide
import HandS.Gcd
import HandS.Flow
import HandS.SortInts
import HandS.Strs
import HandS.NoneIn
import HandS.TupAny
import PyProof.ReprLen
import PyProof.ReprRoads
import HandS.SetFor
import HandS.Star
import PySem.Challenge.RW_gridkept_k35_hours_lost_and_saved
import HandS.Iter
set_option Elab.async false
set_option linter.all false
set_option maxRecDepth 100000
set_option maxHeartbeats 4000000
/-! DLa: data of values over a frozen part of the heap; ownership; slots. -/
namespace DL
open PySem PySem.Spec PyProof.Rows L2
variable {K : PySem.W.Frag}

mutual
/-- v is the data d, all of whose objects stand in G -/
inductive Rp (K : PySem.W.Frag) (G : Hp) : V → PyData → Prop
  | non : Rp K G .non .none
  | bl (b : Bool) : Rp K G (.bl b) (.bool b)
  | int (i : Int) : Rp K G (.int i) (.int i)
  | str (x : Str) : Rp K G (.str x) (.str x)
  | lst {a : Addr} {vs : List V} {ds : List PyData} : G a = some (.lst vs) → RpA K G vs ds → Rp K G (.ref a) (.list ds)
  | tup {a : Addr} {vs : List V} {ds : List PyData} : G a = some (.tup vs) → RpA K G vs ds → Rp K G (.ref a) (.tuple ds)
  /-- the script: told to be a list of ints, never written -/
  | scr {a : Addr} {ns : List Int} : SqL K G a (ns.map V.int) → Rp K G (.ref a) (.dict [(.none, .list (ns.map PyData.int))])
inductive RpA (K : PySem.W.Frag) (G : Hp) : List V → List PyData → Prop
  | nil : RpA K G [] []
  | cons {v : V} {d : PyData} {vs : List V} {ds : List PyData} : Rp K G v d → RpA K G vs ds → RpA K G (v :: vs) (d :: ds)
end

mutual
theorem Rp.mono {G G' : Hp} (s : Same G G') : ∀ {v : V} {d : PyData}, Rp K G v d → Rp K G' v d
  | _, _, .non => .non
  | _, _, .bl b => .bl b
  | _, _, .int i => .int i
  | _, _, .str x => .str x
  | _, _, .lst h r => .lst (s _ _ h) (RpA.mono s r)
  | _, _, .tup h r => .tup (s _ _ h) (RpA.mono s r)
  | _, _, .scr h => .scr (s.seq h)
theorem RpA.mono {G G' : Hp} (s : Same G G') : ∀ {vs : List V} {ds : List PyData}, RpA K G vs ds → RpA K G' vs ds
  | _, _, .nil => .nil
  | _, _, .cons h r => .cons (Rp.mono s h) (RpA.mono s r)
end
mutual
theorem Rp.dp {G : Hp} : ∀ {v : V} {d : PyData}, d.canLay0 = true → Rp K G v d → Dp K G v d
  | _, _, _, .non => .non
  | _, _, _, .bl b => .bl b
  | _, _, _, .int i => .int i
  | _, _, _, .str x => .str x
  | _, _, c, .lst h r => .lst (.inl (.inl h)) (RpA.dp (by simpa [PyData.canLay0] using c) r)
  | _, _, c, .tup h r => .tup (.inl (.inl h)) (RpA.dp (by simpa [PyData.canLay0] using c) r)
  | _, _, c, .scr h => by simp [PyData.canLay0] at c
theorem RpA.dp {G : Hp} : ∀ {vs : List V} {ds : List PyData}, PyData.canLayAll0 ds = true → RpA K G vs ds → DpAll K G vs ds
  | _, _, _, .nil => .nil
  | _, _, c, .cons h r => by
    simp only [PyData.canLayAll0, Bool.and_eq_true] at c
    exact .cons (Rp.dp c.1 h) (RpA.dp c.2 r)
end
theorem shaped_lay {d : PyData} (h : SeqAt.shaped d = true) : d.canLay0 = true := SeqAt.canLay_of_shaped h

/-- how a value may be held: all in G; a list of the own whose items are held so; anywhere in H -/
inductive Kd where
  | val | lst (k : Kd) | any
  deriving DecidableEq
def Kd.le : Kd → Kd → Bool
  | .val, _ => true
  | _, .any => true
  | .lst k, .lst l => Kd.le k l
  | _, _ => false
/-- how an item is held -/
def Kd.it : Kd → Kd
  | .val => .val
  | .lst k => k
  | .any => .any
def Kd.itT : Kd → Kd
  | .any => .any
  | _ => .val

mutual
/-- read only: where the outer lists may stand in H -/
inductive Br (K : PySem.W.Frag) (G H : Hp) : Kd → V → PyData → Prop
  | rp {k : Kd} {v : V} {d : PyData} : Rp K G v d → Br K G H k v d
  | any {v : V} {d : PyData} : Rp K H v d → Br K G H .any v d
  | lst {k : Kd} {a : Addr} {vs : List V} {ds : List PyData} : H a = some (.lst vs) → BrA K G H k vs ds → Br K G H (.lst k) (.ref a) (.list ds)
inductive BrA (K : PySem.W.Frag) (G H : Hp) : Kd → List V → List PyData → Prop
  | nil {k : Kd} : BrA K G H k [] []
  | cons {k : Kd} {v : V} {d : PyData} {vs : List V} {ds : List PyData} : Br K G H k v d → BrA K G H k vs ds → BrA K G H k (v :: vs) (d :: ds)
end
mutual
theorem Br.mono {G H G' H' : Hp} (s : Same G G') (t : Same H H') : ∀ {k : Kd} {v : V} {d : PyData}, Br K G H k v d → Br K G' H' k v d
  | _, _, _, .rp h => .rp (h.mono s)
  | _, _, _, .any h => .any (h.mono t)
  | _, _, _, .lst h r => .lst (t _ _ h) (BrA.mono s t r)
theorem BrA.mono {G H G' H' : Hp} (s : Same G G') (t : Same H H') : ∀ {k : Kd} {vs : List V} {ds : List PyData}, BrA K G H k vs ds → BrA K G' H' k vs ds
  | _, _, _, .nil => .nil
  | _, _, _, .cons h r => .cons (Br.mono s t h) (BrA.mono s t r)
end
mutual
theorem Br.all {G H : Hp} (s : Same G H) : ∀ {k : Kd} {v : V} {d : PyData}, Br K G H k v d → Rp K H v d
  | _, _, _, .rp h => h.mono s
  | _, _, _, .any h => h
  | _, _, _, .lst h r => .lst h (BrA.all s r)
theorem BrA.all {G H : Hp} (s : Same G H) : ∀ {k : Kd} {vs : List V} {ds : List PyData}, BrA K G H k vs ds → RpA K H vs ds
  | _, _, _, .nil => .nil
  | _, _, _, .cons h r => .cons (Br.all s h) (BrA.all s r)
end
theorem Br.val {G H : Hp} {v : V} {d : PyData} : Br K G H .val v d → Rp K G v d
  | .rp h => h
theorem BrA.val {G H : Hp} : ∀ {vs : List V} {ds : List PyData}, BrA K G H .val vs ds → RpA K G vs ds
  | _, _, .nil => .nil
  | _, _, .cons h r => .cons h.val r.val
theorem RpA.br {G H : Hp} {k : Kd} : ∀ {vs : List V} {ds : List PyData}, RpA K G vs ds → BrA K G H k vs ds
  | _, _, .nil => .nil
  | _, _, .cons h r => .cons (.rp h) r.br
theorem RpA.brAny {G H : Hp} : ∀ {vs : List V} {ds : List PyData}, RpA K H vs ds → BrA K G H .any vs ds
  | _, _, .nil => .nil
  | _, _, .cons h r => .cons (.any h) r.brAny
theorem BrA.length {G H : Hp} {k : Kd} : ∀ {vs : List V} {ds : List PyData}, BrA K G H k vs ds → vs.length = ds.length
  | _, _, .nil => rfl
  | _, _, .cons _ r => by simp [r.length]
theorem RpA.length {G : Hp} : ∀ {vs : List V} {ds : List PyData}, RpA K G vs ds → vs.length = ds.length
  | _, _, .nil => rfl
  | _, _, .cons _ r => by simp [r.length]
theorem BrA.get {G H : Hp} {k : Kd} : ∀ {vs : List V} {ds : List PyData} {i : Nat} {d : PyData}, BrA K G H k vs ds → ds[i]? = some d → ∃ v, vs[i]? = some v ∧ Br K G H k v d
  | _, _, _, _, .nil, e => by simp at e
  | _, _, 0, _, .cons h _, e => by simp at e; subst e; exact ⟨_, rfl, h⟩
  | _, _, i + 1, d, .cons _ r, e => by
    obtain ⟨v, h1, h2⟩ := BrA.get (i := i) (d := d) r (by simpa using e)
    exact ⟨v, by simpa using h1, h2⟩
theorem RpA.get {G : Hp} {vs : List V} {ds : List PyData} {i : Nat} {d : PyData} (r : RpA K G vs ds) (e : ds[i]? = some d) : ∃ v, vs[i]? = some v ∧ Rp K G v d := by
  obtain ⟨v, h1, h2⟩ := BrA.get (H := G) (k := .val) r.br e
  exact ⟨v, h1, h2.val⟩
theorem BrA.append {G H : Hp} {k : Kd} : ∀ {vs us : List V} {ds es : List PyData}, BrA K G H k vs ds → BrA K G H k us es → BrA K G H k (vs ++ us) (ds ++ es)
  | _, _, _, _, .nil, s => s
  | _, _, _, _, .cons h r, s => .cons h (r.append s)
theorem RpA.append {G : Hp} : ∀ {vs us : List V} {ds es : List PyData}, RpA K G vs ds → RpA K G us es → RpA K G (vs ++ us) (ds ++ es)
  | _, _, _, _, .nil, s => s
  | _, _, _, _, .cons h r, s => .cons h (r.append s)
theorem RpA.take {G : Hp} : ∀ {vs : List V} {ds : List PyData} (n : Nat), RpA K G vs ds → RpA K G (vs.take n) (ds.take n)
  | _, _, 0, _ => .nil
  | _, _, _ + 1, .nil => .nil
  | _, _, n + 1, .cons h r => .cons h (r.take n)
theorem RpA.drop {G : Hp} : ∀ {vs : List V} {ds : List PyData} (n : Nat), RpA K G vs ds → RpA K G (vs.drop n) (ds.drop n)
  | _, _, 0, r => r
  | _, _, _ + 1, .nil => .nil
  | _, _, n + 1, .cons _ r => r.drop n
theorem RpA.set {G : Hp} {v : V} {d : PyData} (h : Rp K G v d) : ∀ {vs : List V} {ds : List PyData} (i : Nat), RpA K G vs ds → RpA K G (vs.set i v) (ds.set i d)
  | _, _, _, .nil => .nil
  | _, _, 0, .cons _ r => .cons h r
  | _, _, i + 1, .cons q r => .cons q (RpA.set h i r)
theorem RpA.rep {G : Hp} {vs : List V} {ds : List PyData} (r : RpA K G vs ds) : ∀ n : Nat, RpA K G (List.replicate n vs).flatten (List.replicate n ds).flatten
  | 0 => .nil
  | n + 1 => by rw [List.replicate_succ, List.replicate_succ, List.flatten_cons, List.flatten_cons]; exact r.append (RpA.rep r n)
theorem RpA.ints {G : Hp} : ∀ ns : List Int, RpA K G (ns.map V.int) (ns.map PyData.int)
  | [] => .nil
  | n :: r => .cons (.int n) (RpA.ints r)
theorem RpA.ints_inv {G : Hp} : ∀ {ns : List Int} {vs : List V}, RpA K G vs (ns.map PyData.int) → vs = ns.map V.int
  | [], _, .nil => rfl
  | n :: r, _, .cons h t => by
    cases h
    rw [RpA.ints_inv (ns := r) t]; rfl
theorem RpA.bools_inv {G : Hp} : ∀ {ns : List Bool} {vs : List V}, RpA K G vs (ns.map PyData.bool) → vs = ns.map V.bl
  | [], _, .nil => rfl
  | n :: r, _, .cons h t => by
    cases h
    rw [RpA.bools_inv (ns := r) t]; rfl
mutual
theorem Br.lift {G H : Hp} (s : Same G H) : ∀ {k l : Kd} {v : V} {d : PyData}, k.le l = true → Br K G H k v d → Br K G H l v d
  | _, _, _, _, _, .rp h => .rp h
  | _, .any, _, _, _, .any h => .any h
  | _, .any, _, _, _, .lst h r => .any (.lst h (r.all s))
  | _, .lst _, _, _, e, .lst h r => .lst h (BrA.lift s e r)
  | _, .val, _, _, e, .any _ => by cases e
  | _, .lst _, _, _, e, .any _ => by cases e
  | _, .val, _, _, e, .lst _ _ => by cases e
theorem BrA.lift {G H : Hp} (s : Same G H) : ∀ {k l : Kd} {vs : List V} {ds : List PyData}, k.le l = true → BrA K G H k vs ds → BrA K G H l vs ds
  | _, _, _, _, _, .nil => .nil
  | _, _, _, _, e, .cons h r => .cons (Br.lift s e h) (BrA.lift s e r)
end
theorem Br.list {G H : Hp} (s : Same G H) {k : Kd} {v : V} {ds : List PyData} (h : Br K G H k v (.list ds)) : ∃ a vs, v = .ref a ∧ H a = some (.lst vs) ∧ BrA K G H k.it vs ds := by
  cases h with
  | rp h =>
    cases h with
    | lst e r => exact ⟨_, _, rfl, s _ _ e, r.br⟩
  | any h =>
    cases h with
    | lst e r => exact ⟨_, _, rfl, e, r.brAny⟩
  | lst e r => exact ⟨_, _, rfl, e, r⟩
theorem Br.tuple {G H : Hp} (s : Same G H) {k : Kd} {v : V} {ds : List PyData} (h : Br K G H k v (.tuple ds)) : ∃ a vs, v = .ref a ∧ H a = some (.tup vs) ∧ BrA K G H k.itT vs ds := by
  cases h with
  | rp h =>
    cases h with
    | tup e r => exact ⟨_, _, rfl, s _ _ e, r.br⟩
  | any h =>
    cases h with
    | tup e r => exact ⟨_, _, rfl, e, r.brAny⟩
theorem Br.script {G H : Hp} (s : Same G H) {k : Kd} {v : V} {xs : List PyData} (h : Br K G H k v (.dict [(.none, .list xs)])) : ∃ (a : Addr) (ns : List Int), v = .ref a ∧ xs = ns.map PyData.int ∧ SqL K H a (ns.map V.int) := by
  have q := h.all s
  generalize e : PyData.dict [(.none, .list xs)] = d at q
  cases q with
  | scr hs =>
    injection e with e
    injection e with e _
    injection e with _ e
    injection e with e
    exact ⟨_, _, rfl, e, hs⟩
  | non => cases e
  | bl _ => cases e
  | int _ => cases e
  | str _ => cases e
  | lst _ _ => cases e
  | tup _ _ => cases e
theorem Br.int {G H : Hp} {k : Kd} {v : V} {i : Int} (h : Br K G H k v (.int i)) : v = .int i := by
  cases h with
  | rp h => cases h; rfl
  | any h => cases h; rfl
theorem Br.bool {G H : Hp} {k : Kd} {v : V} {i : Bool} (h : Br K G H k v (.bool i)) : v = .bl i := by
  cases h with
  | rp h => cases h; rfl
  | any h => cases h; rfl
theorem Br.none {G H : Hp} {k : Kd} {v : V} (h : Br K G H k v .none) : v = .non := by
  cases h with
  | rp h => cases h; rfl
  | any h => cases h; rfl
theorem Br.str {G H : Hp} {k : Kd} {v : V} {x : Str} (h : Br K G H k v (.str x)) : v = .str x := by
  cases h with
  | rp h => cases h; rfl
  | any h => cases h; rfl
theorem Br.none_iff {G H : Hp} (s : Same G H) {k : Kd} {v : V} {d : PyData} (h : Br K G H k v d) : decide (v = .non) = (match d with | .none => true | _ => false) := by
  have q := h.all s
  cases q <;> simp

/-- the heap grew: G to G', H to H'; what is new in G' was not in H -/
structure Ext (G H G' H' : Hp) : Prop where
  g : Same G G'
  h : Same H H'
  s : Same G' H'
  n : ∀ a o, G a = Option.none → H a = some o → G' a = Option.none
theorem Ext.refl {G H : Hp} (s : Same G H) : Ext G H G H := ⟨Same.refl _, Same.refl _, s, fun _ _ e _ => e⟩
theorem Ext.trans {G H G1 H1 G2 H2 : Hp} (a : Ext G H G1 H1) (b : Ext G1 H1 G2 H2) : Ext G H G2 H2 :=
  ⟨a.g.trans b.g, a.h.trans b.h, b.s, fun c o e q => b.n c o (a.n c o e q) (a.h _ _ q)⟩
theorem same_new {G : Hp} {a : Addr} {o : HO} (h : G a = Option.none) : Same G (upd G a o) := fun b x e => by
  rw [upd_ne (ne_of_none e h)]; exact e
theorem same_upd2 {G H : Hp} {a : Addr} {o : HO} (s : Same G H) : Same (upd G a o) (upd H a o) := fun b x e => by
  by_cases q : b = a
  · subst q
    rw [upd_same] at e ⊢
    exact e
  · rw [upd_ne q] at e ⊢
    exact s _ _ e
/-- a new object, frozen at once -/
theorem Ext.new {G H : Hp} (s : Same G H) {a : Addr} {o : HO} (h : H a = Option.none) : Ext G H (upd G a o) (upd H a o) :=
  ⟨same_new (s.free h), same_new h, same_upd2 s, fun b x e q => by rw [upd_ne (ne_of_none q h)]; exact e⟩
/-- a new object that is not frozen -/
theorem Ext.own {G H : Hp} (s : Same G H) {a : Addr} {o : HO} (h : H a = Option.none) : Ext G H G (upd H a o) :=
  ⟨Same.refl _, same_new h, s.trans (same_new h), fun _ _ e _ => e⟩

mutual
/-- an own value: its lists (fp) are no part of G -/
inductive Ow (K : PySem.W.Frag) (G H : Hp) : Kd → V → PyData → List Addr → Prop
  | val {v : V} {d : PyData} : Rp K G v d → Ow K G H .val v d []
  | lst {k : Kd} {a : Addr} {vs : List V} {ds : List PyData} {fp : List Addr} : H a = some (.lst vs) → OwA K G H k vs ds fp → Ow K G H (.lst k) (.ref a) (.list ds) (a :: fp)
inductive OwA (K : PySem.W.Frag) (G H : Hp) : Kd → List V → List PyData → List Addr → Prop
  | nil {k : Kd} : OwA K G H k [] [] []
  | cons {k : Kd} {v : V} {d : PyData} {vs : List V} {ds : List PyData} {f fp : List Addr} : Ow K G H k v d f → OwA K G H k vs ds fp → OwA K G H k (v :: vs) (d :: ds) (f ++ fp)
end
mutual
theorem Ow.frame {G H G' H' : Hp} (s : Same G G') : ∀ {k : Kd} {v : V} {d : PyData} {fp : List Addr}, (∀ a ∈ fp, ∀ o, H a = some o → H' a = some o) → Ow K G H k v d fp → Ow K G' H' k v d fp
  | _, _, _, _, _, .val h => .val (h.mono s)
  | _, _, _, _, q, .lst h r => .lst (q _ List.mem_cons_self _ h) (OwA.frame s (fun a m => q a (List.mem_cons_of_mem _ m)) r)
theorem OwA.frame {G H G' H' : Hp} (s : Same G G') : ∀ {k : Kd} {vs : List V} {ds : List PyData} {fp : List Addr}, (∀ a ∈ fp, ∀ o, H a = some o → H' a = some o) → OwA K G H k vs ds fp → OwA K G' H' k vs ds fp
  | _, _, _, _, _, .nil => .nil
  | _, _, _, _, q, .cons h r => .cons (Ow.frame s (fun a m => q a (List.mem_append_left _ m)) h) (OwA.frame s (fun a m => q a (List.mem_append_right _ m)) r)
end
mutual
theorem Ow.br {G H : Hp} : ∀ {k : Kd} {v : V} {d : PyData} {fp : List Addr}, Ow K G H k v d fp → Br K G H k v d
  | _, _, _, _, .val h => .rp h
  | _, _, _, _, .lst h r => .lst h (OwA.br r)
theorem OwA.br {G H : Hp} : ∀ {k : Kd} {vs : List V} {ds : List PyData} {fp : List Addr}, OwA K G H k vs ds fp → BrA K G H k vs ds
  | _, _, _, _, .nil => .nil
  | _, _, _, _, .cons h r => .cons (Ow.br h) (OwA.br r)
end
theorem OwA.of {G H : Hp} : ∀ {vs : List V} {ds : List PyData}, RpA K G vs ds → OwA K G H .val vs ds []
  | _, _, .nil => .nil
  | _, _, .cons h r => .cons (.val h) (OwA.of r)
theorem OwA.nilfp {G H : Hp} : ∀ {vs : List V} {ds : List PyData} {fp : List Addr}, OwA K G H .val vs ds fp → fp = [] ∧ RpA K G vs ds
  | _, _, _, .nil => ⟨rfl, .nil⟩
  | _, _, _, .cons h r => by
    cases h with
    | val h =>
      obtain ⟨e, q⟩ := r.nilfp
      subst e
      exact ⟨rfl, .cons h q⟩
/-- G and the objects of H at fp -/
def add (G H : Hp) (fp : List Addr) : Hp := fun a => if a ∈ fp then H a else G a
theorem add_same {G H : Hp} (s : Same G H) (fp : List Addr) : Same G (add G H fp) := fun a o e => by
  unfold add
  split
  · exact s _ _ e
  · exact e
theorem add_sub {G H : Hp} (s : Same G H) (fp : List Addr) : Same (add G H fp) H := fun a o e => by
  unfold add at e
  split at e
  · exact e
  · exact s _ _ e
mutual
theorem Ow.freeze {G H : Hp} {fs : List Addr} (s : Same G H) : ∀ {k : Kd} {v : V} {d : PyData} {fp : List Addr}, (∀ a ∈ fp, a ∈ fs) → Ow K G H k v d fp → Rp K (add G H fs) v d
  | _, _, _, _, _, .val h => h.mono (add_same s fs)
  | _, _, _, _, q, .lst h r => .lst (by unfold add; rw [if_pos (q _ List.mem_cons_self)]; exact h) (OwA.freeze s (fun b m => q b (List.mem_cons_of_mem _ m)) r)
theorem OwA.freeze {G H : Hp} {fs : List Addr} (s : Same G H) : ∀ {k : Kd} {vs : List V} {ds : List PyData} {fp : List Addr}, (∀ a ∈ fp, a ∈ fs) → OwA K G H k vs ds fp → RpA K (add G H fs) vs ds
  | _, _, _, _, _, .nil => .nil
  | _, _, _, _, q, .cons h r => .cons (Ow.freeze s (fun b m => q b (List.mem_append_left _ m)) h) (OwA.freeze s (fun b m => q b (List.mem_append_right _ m)) r)
end

abbrev Env := List (Option (Kd × PyData))
/-- the slots hold what ρ says; fp: the own lists of all of them -/
inductive Sl (K : PySem.W.Frag) (G H : Hp) : L2.St → Env → List Addr → Prop
  | nil : Sl K G H [] [] []
  | skip {o : Option V} {σ : L2.St} {ρ : Env} {fp : List Addr} : Sl K G H σ ρ fp → Sl K G H (o :: σ) (Option.none :: ρ) fp
  | cons {v : V} {k : Kd} {d : PyData} {σ : L2.St} {ρ : Env} {f fp : List Addr} : Ow K G H k v d f → Sl K G H σ ρ fp → Sl K G H (some v :: σ) (some (k, d) :: ρ) (f ++ fp)
theorem Sl.frame {G H G' H' : Hp} (s : Same G G') : ∀ {σ : L2.St} {ρ : Env} {fp : List Addr}, (∀ a ∈ fp, ∀ o, H a = some o → H' a = some o) → Sl K G H σ ρ fp → Sl K G' H' σ ρ fp
  | _, _, _, _, .nil => .nil
  | _, _, _, q, .skip r => .skip (Sl.frame s q r)
  | _, _, _, q, .cons h r => .cons (h.frame s fun a m => q a (List.mem_append_left _ m)) (Sl.frame s (fun a m => q a (List.mem_append_right _ m)) r)
theorem Sl.mono {G H G' H' : Hp} (s : Same G G') (t : Same H H') {σ : L2.St} {ρ : Env} {fp : List Addr} (h : Sl K G H σ ρ fp) : Sl K G' H' σ ρ fp := h.frame s fun _ _ _ e => t _ _ e
theorem Sl.len {G H : Hp} : ∀ {σ : L2.St} {ρ : Env} {fp : List Addr}, Sl K G H σ ρ fp → σ.length = ρ.length
  | _, _, _, .nil => rfl
  | _, _, _, .skip r => by simp [r.len]
  | _, _, _, .cons _ r => by simp [r.len]
theorem Sl.get {G H : Hp} : ∀ {σ : L2.St} {ρ : Env} {fp : List Addr} {i : Nat} {k : Kd} {d : PyData}, Sl K G H σ ρ fp → ρ[i]? = some (some (k, d)) → ∃ v f, σ[i]? = some (some v) ∧ Ow K G H k v d f ∧ ∀ a ∈ f, a ∈ fp
  | _, _, _, _, _, _, .nil, e => by simp at e
  | _, _, _, 0, _, _, .skip _, e => by simp at e
  | _, _, _, i + 1, k, d, .skip r, e => by
    obtain ⟨v, f, h1, h2, h3⟩ := Sl.get (i := i) (k := k) (d := d) r (by simpa using e)
    exact ⟨v, f, by simpa using h1, h2, h3⟩
  | _, _, _, 0, _, _, .cons h _, e => by
    simp at e
    obtain ⟨rfl, rfl⟩ := e
    exact ⟨_, _, rfl, h, fun a m => List.mem_append_left _ m⟩
  | _, _, _, i + 1, k, d, .cons _ r, e => by
    obtain ⟨v, f, h1, h2, h3⟩ := Sl.get (i := i) (k := k) (d := d) r (by simpa using e)
    exact ⟨v, f, by simpa using h1, h2, fun a m => List.mem_append_right _ (h3 a m)⟩
/-- forgetting a slot -/
theorem Sl.drop {G H : Hp} : ∀ {σ : L2.St} {ρ : Env} {fp : List Addr} (i : Nat) (o : Option V), Sl K G H σ ρ fp → ∃ fp', Sl K G H (σ.set i o) (ρ.set i Option.none) fp' ∧ List.Sublist fp' fp
  | _, _, _, _, _, .nil => ⟨[], .nil, List.Sublist.refl _⟩
  | _, _, _, 0, o, .skip r => ⟨_, .skip r, List.Sublist.refl _⟩
  | _, _, _, 0, o, .cons h r => ⟨_, .skip r, List.sublist_append_right _ _⟩
  | _, _, _, i + 1, o, .skip r => by
    obtain ⟨fp', a, b⟩ := r.drop i o
    exact ⟨fp', .skip a, b⟩
  | _, _, _, i + 1, o, .cons h r => by
    obtain ⟨fp', a, b⟩ := r.drop i o
    exact ⟨_, .cons h a, List.Sublist.append (List.Sublist.refl _) b⟩
/-- filling a slot that is forgotten -/
theorem Sl.put {G H : Hp} {v : V} {k : Kd} {d : PyData} {f : List Addr} (h : Ow K G H k v d f) : ∀ {σ : L2.St} {ρ : Env} {fp : List Addr} (i : Nat), i < ρ.length → ρ[i]? = some Option.none → Sl K G H σ ρ fp →
    ∃ fp', Sl K G H (σ.set i (some v)) (ρ.set i (some (k, d))) fp' ∧ fp'.Perm (f ++ fp)
  | _, _, _, _, hi, _, .nil => by simp at hi
  | _, _, _, 0, _, _, .skip r => ⟨_, .cons h r, List.Perm.refl _⟩
  | _, _, _, 0, _, e, .cons _ r => by simp at e
  | _, _, _, i + 1, hi, e, .skip r => by
    obtain ⟨fp', a, b⟩ := Sl.put h (i := i) (by simpa using hi) (by simpa using e) r
    exact ⟨fp', .skip a, b⟩
  | _, _, _, i + 1, hi, e, .cons (f := f0) (fp := fp0) q r => by
    obtain ⟨fp', a, b⟩ := Sl.put h (i := i) (by simpa using hi) (by simpa using e) r
    refine ⟨_, .cons q a, ?_⟩
    have b2 := List.Perm.append_left f0 b
    refine b2.trans ?_
    rw [← List.append_assoc, ← List.append_assoc]
    exact List.Perm.append_right fp0 List.perm_append_comm

/-- the own lists: new since H0, no part of G, each once -/
structure Fp (H0 G : Hp) (fp : List Addr) : Prop where
  o : ∀ a ∈ fp, G a = Option.none ∧ H0 a = Option.none
  d : fp.Nodup
theorem Fp.nil {H0 G : Hp} : Fp H0 G [] := ⟨fun _ m => (nomatch m), List.nodup_nil⟩
theorem Fp.sub {H0 G : Hp} {fp fq : List Addr} (h : Fp H0 G fp) (s : List.Sublist fq fp) : Fp H0 G fq := ⟨fun a m => h.o a (s.subset m), h.d.sublist s⟩
theorem Fp.perm {H0 G : Hp} {fp fq : List Addr} (h : Fp H0 G fp) (s : fq.Perm fp) : Fp H0 G fq := ⟨fun a m => h.o a (s.mem_iff.mp m), s.nodup_iff.mpr h.d⟩
mutual
theorem Ow.there {G H : Hp} : ∀ {k : Kd} {v : V} {d : PyData} {f : List Addr}, Ow K G H k v d f → ∀ a ∈ f, ∃ o, H a = some o
  | _, _, _, _, .val _, _, m => by cases m
  | _, _, _, _, .lst h r, a, m => by
    rcases List.mem_cons.mp m with rfl | m
    · exact ⟨_, h⟩
    · exact OwA.there r a m
theorem OwA.there {G H : Hp} : ∀ {k : Kd} {vs : List V} {ds : List PyData} {f : List Addr}, OwA K G H k vs ds f → ∀ a ∈ f, ∃ o, H a = some o
  | _, _, _, _, .nil, _, m => by cases m
  | _, _, _, _, .cons h r, a, m => by
    rcases List.mem_append.mp m with m | m
    · exact Ow.there h a m
    · exact OwA.there r a m
end
theorem Sl.there {G H : Hp} : ∀ {σ : L2.St} {ρ : Env} {fp : List Addr}, Sl K G H σ ρ fp → ∀ a ∈ fp, ∃ o, H a = some o
  | _, _, _, .nil, _, m => by cases m
  | _, _, _, .skip r, a, m => r.there a m
  | _, _, _, .cons h r, a, m => by
    rcases List.mem_append.mp m with m | m
    · exact h.there a m
    · exact r.there a m
end DL

/-! DLb: what a reading needs, by plain functions on data: expressions. -/
namespace DL
open PySem PySem.Spec PyProof.Rows L2
variable {K : PySem.W.Frag}

abbrev Ev := Env → Option PyData
/-- the reading t gives what f says, held as k -/
def SemE (K : PySem.W.Frag) (t : TE) (k : Kd) (f : Ev) : Prop := ∀ (G H : Hp) (σ : L2.St) (ρ : Env) (fp : List Addr) (d : PyData) (Q : VK), Same G H → Sl K G H σ ρ fp → f ρ = some d →
  (∀ v G' H', Ext G H G' H' → Br K G' H' k v d → Q v H') → t σ H Q
/-- .. a new value of one's own -/
def SemO (K : PySem.W.Frag) (t : TE) (k : Kd) (f : Ev) : Prop := ∀ (G H : Hp) (σ : L2.St) (ρ : Env) (fp : List Addr) (d : PyData) (Q : VK), Same G H → Sl K G H σ ρ fp → f ρ = some d →
  (∀ v G' H' f', Ext G H G' H' → Ow K G' H' k v d f' → (∀ a ∈ f', G' a = Option.none ∧ H a = Option.none) → f'.Nodup → Q v H') → t σ H Q
def SemT (K : PySem.W.Frag) (t : TT) (f : Env → Option Bool) : Prop := ∀ (G H : Hp) (σ : L2.St) (ρ : Env) (fp : List Addr) (b : Bool) (Q : Bool → Hp → Prop), Same G H → Sl K G H σ ρ fp → f ρ = some b →
  (∀ G' H', Ext G H G' H' → Q b H') → t σ H Q
def SemA (K : PySem.W.Frag) (t : TA) (k : Kd) (f : Env → Option (List PyData)) : Prop := ∀ (G H : Hp) (σ : L2.St) (ρ : Env) (fp : List Addr) (ds : List PyData) (Q : List V → Hp → Prop), Same G H → Sl K G H σ ρ fp → f ρ = some ds →
  (∀ vs G' H', Ext G H G' H' → BrA K G' H' k vs ds → Q vs H') → t σ H Q

theorem SemE.lift {t : TE} {k l : Kd} {f : Ev} (h : SemE K t k f) (e : k.le l = true) : SemE K t l f := fun G H σ ρ fp d Q s S r q =>
  h G H σ ρ fp d Q s S r fun v G' H' X b => q v G' H' X (b.lift X.s e)
theorem SemE.toAny {t : TE} {k : Kd} {f : Ev} (h : SemE K t k f) : SemE K t .any f := h.lift (by cases k <;> rfl)
theorem SemE.ofVal {t : TE} {k : Kd} {f : Ev} (h : SemE K t .val f) : SemE K t k f := h.lift rfl
theorem SemO.e {t : TE} {k l : Kd} {f : Ev} (h : SemO K t k f) : SemE K t l f := fun G H σ ρ fp d Q s S r q =>
  h G H σ ρ fp d Q s S r fun v G' H' f' X o n _ =>
    q v (add G' H' f') H' ⟨X.g.trans (add_same X.s f'), X.h, add_sub X.s f', fun a o' e1 e2 => by
      unfold add
      rw [if_neg (fun m => by rw [(n a m).2] at e2; cases e2)]
      exact X.n a o' e1 e2⟩ (.rp (o.freeze X.s fun _ m => m))

/-! ### names, constants -/
def eVar (k : Kd) (i : Nat) : Ev := fun ρ => match ρ[i]? with
  | some (some (l, d)) => if l.le k = true then some d else Option.none
  | _ => Option.none
theorem sem_var (k : Kd) (i : Nat) : SemE K (tVar i) k (eVar k i) := by
  intro G H σ ρ fp d Q s S r q
  unfold eVar at r
  split at r
  · rename_i l d' e
    split at r
    · rename_i hl
      cases r
      obtain ⟨v, f, h1, h2, _⟩ := S.get e
      exact ⟨v, h1, q v G H (Ext.refl s) (h2.br.lift s hl)⟩
    · cases r
  · cases r
def eC (d : PyData) : Ev := fun _ => some d
theorem sem_c {v : V} {d : PyData} (h : ∀ G, Rp K G v d) (k : Kd) : SemE K (tC v) k (eC d) := by
  intro G H σ ρ fp d' Q s S r q
  cases r
  exact q v G H (Ext.refl s) (.rp (h G))
theorem sem_int (i : Int) (k : Kd) : SemE K (tC (.int i)) k (eC (.int i)) := sem_c (fun _ => .int i) k
theorem sem_bl (i : Bool) (k : Kd) : SemE K (tC (.bl i)) k (eC (.bool i)) := sem_c (fun _ => .bl i) k
theorem sem_non (k : Kd) : SemE K (tC .non) k (eC .none) := sem_c (fun _ => .non) k
theorem sem_str (i : Str) (k : Kd) : SemE K (tC (.str i)) k (eC (.str i)) := sem_c (fun _ => .str i) k

/-! ### argument lists, displays -/
def aNil : Env → Option (List PyData) := fun _ => some []
def aCons (a : Ev) (r : Env → Option (List PyData)) : Env → Option (List PyData) := fun ρ => (a ρ).bind fun x => (r ρ).bind fun xs => some (x :: xs)
theorem sema_nil (k : Kd) : SemA K tNil k aNil := by
  intro G H σ ρ fp ds Q s S r q
  cases r
  exact q [] G H (Ext.refl s) .nil
theorem sema_cons {te : TE} {t : TA} {k : Kd} {f : Ev} {g : Env → Option (List PyData)} (h : SemE K te k f) (h2 : SemA K t k g) : SemA K (tCons te t) k (aCons f g) := by
  intro G H σ ρ fp ds Q s S r q
  unfold aCons at r
  obtain ⟨x, e1, r⟩ := Option.bind_eq_some_iff.mp r
  obtain ⟨xs, e2, r⟩ := Option.bind_eq_some_iff.mp r
  cases r
  refine h G H σ ρ fp x _ s S e1 fun v G1 H1 X1 b1 => ?_
  refine h2 G1 H1 σ ρ fp xs _ X1.s (S.mono X1.g X1.h) e2 fun vs G2 H2 X2 b2 => ?_
  exact q _ G2 H2 (X1.trans X2) (.cons (b1.mono X2.g X2.h) b2)
/-- the greatest length of a list -/
abbrev most : Nat := 16777216
theorem most_eq : sizeLine = most := sizeLine_eq
def dTup (g : Env → Option (List PyData)) : Ev := fun ρ => (g ρ).bind fun ds => if ds.length ≤ most then some (.tuple ds) else Option.none
def dLst (g : Env → Option (List PyData)) : Ev := fun ρ => (g ρ).bind fun ds => if ds.length ≤ most then some (.list ds) else Option.none
theorem sem_tup {t : TA} {g : Env → Option (List PyData)} (k : Kd) (h : SemA K t .val g) : SemE K (tTup t) k (dTup g) := by
  intro G H σ ρ fp d Q s S r q
  unfold dTup at r
  obtain ⟨ds, e1, r⟩ := Option.bind_eq_some_iff.mp r
  split at r
  · rename_i hl
    cases r
    refine h G H σ ρ fp ds _ s S e1 fun vs G1 H1 X1 b1 => ?_
    refine ⟨by rw [b1.length, most_eq]; exact hl, fun p hp => ?_⟩
    have X2 := Ext.new (o := .tup vs) X1.s hp
    exact q _ _ _ (X1.trans X2) (.rp (.tup upd_same (b1.val.mono X2.g)))
  · cases r
theorem sem_tupA {t : TA} {g : Env → Option (List PyData)} (h : SemA K t .any g) : SemE K (tTup t) .any (dTup g) := by
  intro G H σ ρ fp d Q s S r q
  unfold dTup at r
  obtain ⟨ds, e1, r⟩ := Option.bind_eq_some_iff.mp r
  split at r
  · rename_i hl
    cases r
    refine h G H σ ρ fp ds _ s S e1 fun vs G1 H1 X1 b1 => ?_
    refine ⟨by rw [b1.length, most_eq]; exact hl, fun p hp => ?_⟩
    have X2 := Ext.new (o := .tup vs) X1.s hp
    exact q _ _ _ (X1.trans X2) (.any (.tup upd_same ((b1.all X1.s).mono X2.h)))
  · cases r
theorem sem_lst {t : TA} {g : Env → Option (List PyData)} (h : SemA K t .val g) : SemO K (tLst t) (.lst .val) (dLst g) := by
  intro G H σ ρ fp d Q s S r q
  unfold dLst at r
  obtain ⟨ds, e1, r⟩ := Option.bind_eq_some_iff.mp r
  split at r
  · rename_i hl
    cases r
    refine h G H σ ρ fp ds _ s S e1 fun vs G1 H1 X1 b1 => ?_
    refine ⟨by rw [b1.length, most_eq]; exact hl, fun p hp => ?_⟩
    refine q _ G1 _ [p] (X1.trans (Ext.own X1.s hp)) (.lst upd_same (OwA.of b1.val)) (fun a m => ?_) (by simp)
    have e : a = p := by simpa using m
    subst e
    exact ⟨X1.s.free hp, X1.h.free hp⟩
  · cases r
theorem sem_lstA {t : TA} {g : Env → Option (List PyData)} (h : SemA K t .any g) : SemE K (tLst t) .any (dLst g) := by
  intro G H σ ρ fp d Q s S r q
  unfold dLst at r
  obtain ⟨ds, e1, r⟩ := Option.bind_eq_some_iff.mp r
  split at r
  · rename_i hl
    cases r
    refine h G H σ ρ fp ds _ s S e1 fun vs G1 H1 X1 b1 => ?_
    refine ⟨by rw [b1.length, most_eq]; exact hl, fun p hp => ?_⟩
    have X2 := Ext.new (o := .lst vs) X1.s hp
    exact q _ _ _ (X1.trans X2) (.any (.lst upd_same ((b1.all X1.s).mono X2.h)))
  · cases r

/-! ### operators -/
abbrev D2 := PyData → PyData → Option PyData
/-- an operator's wants, by data: the answer in G or new -/
def Sem2 (K : PySem.W.Frag) (r : R2) (k1 k2 k : Kd) (op : D2) : Prop := ∀ (G H : Hp) (x y : V) (dx dy d : PyData) (Q : VK), Same G H → Br K G H k1 x dx → Br K G H k2 y dy → op dx dy = some d →
  (∀ v G' H', Ext G H G' H' → Br K G' H' k v d → Q v H') → r x y H Q
def Sem2O (K : PySem.W.Frag) (r : R2) (k1 k2 k : Kd) (op : D2) : Prop := ∀ (G H : Hp) (x y : V) (dx dy d : PyData) (Q : VK), Same G H → Br K G H k1 x dx → Br K G H k2 y dy → op dx dy = some d →
  (∀ v G' H' f', Ext G H G' H' → Ow K G' H' k v d f' → (∀ a ∈ f', G' a = Option.none ∧ H a = Option.none) → f'.Nodup → Q v H') → r x y H Q
def eOp (op : D2) (a b : Ev) : Ev := fun ρ => (a ρ).bind fun x => (b ρ).bind fun y => op x y
theorem sem_op {r : R2} {k1 k2 k : Kd} {op : D2} {ta tb : TE} {fa fb : Ev} (h : Sem2 K r k1 k2 k op) (ha : SemE K ta k1 fa) (hb : SemE K tb k2 fb) : SemE K (tOp r ta tb) k (eOp op fa fb) := by
  intro G H σ ρ fp d Q s S e q
  unfold eOp at e
  obtain ⟨x, e1, e⟩ := Option.bind_eq_some_iff.mp e
  obtain ⟨y, e2, e⟩ := Option.bind_eq_some_iff.mp e
  refine ha G H σ ρ fp x _ s S e1 fun v G1 H1 X1 b1 => ?_
  refine hb G1 H1 σ ρ fp y _ X1.s (S.mono X1.g X1.h) e2 fun u G2 H2 X2 b2 => ?_
  exact h G2 H2 v u x y d Q X2.s (b1.mono X2.g X2.h) b2 e fun w G3 H3 X3 b3 => q w G3 H3 (X1.trans (X2.trans X3)) b3
theorem Own.back {G H G1 H1 : Hp} (X : Ext G H G1 H1) {f : List Addr} {G2 : Hp} (h : ∀ a ∈ f, G2 a = Option.none ∧ H1 a = Option.none) : ∀ a ∈ f, G2 a = Option.none ∧ H a = Option.none := fun a m => ⟨(h a m).1, X.h.free (h a m).2⟩
theorem sem_opO {r : R2} {k1 k2 k : Kd} {op : D2} {ta tb : TE} {fa fb : Ev} (h : Sem2O K r k1 k2 k op) (ha : SemE K ta k1 fa) (hb : SemE K tb k2 fb) : SemO K (tOp r ta tb) k (eOp op fa fb) := by
  intro G H σ ρ fp d Q s S e q
  unfold eOp at e
  obtain ⟨x, e1, e⟩ := Option.bind_eq_some_iff.mp e
  obtain ⟨y, e2, e⟩ := Option.bind_eq_some_iff.mp e
  refine ha G H σ ρ fp x _ s S e1 fun v G1 H1 X1 b1 => ?_
  refine hb G1 H1 σ ρ fp y _ X1.s (S.mono X1.g X1.h) e2 fun u G2 H2 X2 b2 => ?_
  exact h G2 H2 v u x y d Q X2.s (b1.mono X2.g X2.h) b2 e fun w G3 H3 f' X3 b3 n nd => q w G3 H3 f' (X1.trans (X2.trans X3)) b3 (Own.back X1 (Own.back X2 n)) nd
def d2I (c : Int → Int → Bool) (g : Int → Int → PyData) : D2
  | .int i, .int j => if c i j = true then some (g i j) else Option.none
  | _, _ => Option.none
def d2J (g : Int → Int → PyData) : D2
  | .int i, .int j => some (g i j)
  | _, _ => Option.none
theorem s2_int (g : Int → Int → Int) (k : Kd) : Sem2 K (rI0 fun i j => .int (g i j)) .any .any k (d2J fun i j => .int (g i j)) := by
  intro G H x y dx dy d Q s bx bx' e q
  unfold d2J at e
  split at e
  · cases e
    cases bx.int; cases bx'.int
    exact ⟨_, _, rfl, rfl, q _ G H (Ext.refl s) (.rp (.int _))⟩
  · cases e
theorem s2_cmp (g : Int → Int → Bool) (k : Kd) : Sem2 K (rI0 fun i j => .bl (g i j)) .any .any k (d2J fun i j => .bool (g i j)) := by
  intro G H x y dx dy d Q s bx bx' e q
  unfold d2J at e
  split at e
  · cases e
    cases bx.int; cases bx'.int
    exact ⟨_, _, rfl, rfl, q _ G H (Ext.refl s) (.rp (.bl _))⟩
  · cases e
theorem s2_intC {C : Int → Int → Prop} (c : Int → Int → Bool) (hc : ∀ i j, c i j = true → C i j) (g : Int → Int → Int) (k : Kd) : Sem2 K (rI C fun i j => .int (g i j)) .any .any k (d2I c fun i j => .int (g i j)) := by
  intro G H x y dx dy d Q s bx bx' e q
  unfold d2I at e
  split at e
  · split at e
    · rename_i h
      cases e
      cases bx.int; cases bx'.int
      exact ⟨_, _, rfl, rfl, hc _ _ h, q _ G H (Ext.refl s) (.rp (.int _))⟩
    · cases e
  · cases e
def dEqS : D2
  | .str x, .str y => some (.bool (decide (x = y)))
  | _, _ => Option.none
def dNeS : D2
  | .str x, .str y => some (.bool (!decide (x = y)))
  | _, _ => Option.none
theorem s2_eqS (k : Kd) : Sem2 K rEq .any .any k dEqS := by
  intro G H x y dx dy d Q s bx bx' e q
  unfold dEqS at e
  split at e
  · rename_i a b
    cases e
    cases bx.str; cases bx'.str
    have z : decide (V.str a = V.str b) = decide (a = b) := by
      by_cases h : a = b
      · subst h; simp
      · rw [decide_eq_false h, decide_eq_false (fun z => h (V.str.inj z))]
    exact ⟨rfl, by rw [z]; exact q _ G H (Ext.refl s) (.rp (.bl _))⟩
  · cases e
theorem s2_neS (k : Kd) : Sem2 K rNe .any .any k dNeS := by
  intro G H x y dx dy d Q s bx bx' e q
  unfold dNeS at e
  split at e
  · rename_i a b
    cases e
    cases bx.str; cases bx'.str
    have z : decide (V.str a = V.str b) = decide (a = b) := by
      by_cases h : a = b
      · subst h; simp
      · rw [decide_eq_false h, decide_eq_false (fun z => h (V.str.inj z))]
    exact ⟨rfl, by rw [z]; exact q _ G H (Ext.refl s) (.rp (.bl _))⟩
  · cases e
theorem s2_or {r r' : R2} {k1 k2 k : Kd} {o o' : D2} (h : Sem2 K r k1 k2 k o) (h' : Sem2 K r' k1 k2 k o') : Sem2 K (fun x y H Q => r x y H Q ∨ r' x y H Q) k1 k2 k (fun x y => (o x y).or (o' x y)) := by
  intro G H x y dx dy d Q s bx bx' e q
  cases ho : o dx dy with
  | some z =>
    simp only [ho, Option.some_or] at e
    cases e
    exact .inl (h G H x y dx dy _ Q s bx bx' ho q)
  | none =>
    simp only [ho, Option.none_or] at e
    exact .inr (h' G H x y dx dy _ Q s bx bx' e q)
theorem s2_orR {r r' : R2} {k1 k2 k : Kd} {o' : D2} (h' : Sem2O K r' k1 k2 k o') : Sem2O K (fun x y H Q => r x y H Q ∨ r' x y H Q) k1 k2 k o' := by
  intro G H x y dx dy d Q s bx bx' e q
  exact .inr (h' G H x y dx dy _ Q s bx bx' e q)
theorem s2_ofO {r : R2} {k1 k2 k l : Kd} {o : D2} (h : Sem2O K r k1 k2 k o) : Sem2 K r k1 k2 l o := fun G H x y dx dy d Q s bx bx' e q =>
  h G H x y dx dy d Q s bx bx' e fun v G' H' f' X o n _ =>
    q v (add G' H' f') H' ⟨X.g.trans (add_same X.s f'), X.h, add_sub X.s f', fun a o' e1 e2 => by
      unfold add
      rw [if_neg (fun m => by rw [(n a m).2] at e2; cases e2)]
      exact X.n a o' e1 e2⟩ (.rp (o.freeze X.s fun _ m => m))
/-- the size of a product, a quotient -/
def cMul (i j : Int) : Bool := decide (i.natAbs.log2 + j.natAbs.log2 < 1000000)
def cDiv (_ j : Int) : Bool := decide (0 < j) && decide (j.natAbs.log2 < 9000)
def cPos (_ j : Int) : Bool := decide (0 < j)
theorem cMul_ok (i j : Int) (h : cMul i j = true) : CMulW i j := by
  unfold cMul at h
  rw [decide_eq_true_eq] at h
  exact h
theorem cDiv_ok (i j : Int) (h : cDiv i j = true) : CDivW i j := by
  unfold cDiv at h
  rw [Bool.and_eq_true] at h
  exact ⟨of_decide_eq_true h.1, of_decide_eq_true h.2⟩
theorem cPos_ok (i j : Int) (h : cPos i j = true) : 0 < j := of_decide_eq_true h
/-- list + list -/
def dCat : D2
  | .list xs, .list ys => if xs.length + ys.length ≤ most then some (.list (xs ++ ys)) else Option.none
  | _, _ => Option.none
theorem s2_cat : Sem2O K rCat (.lst .val) (.lst .val) (.lst .val) dCat := by
  intro G H x y dx dy d Q s bx bx' e q
  unfold dCat at e
  split at e
  · rename_i xs ys
    split at e
    · rename_i h
      cases e
      obtain ⟨a, vs, rfl, h1, r1⟩ := bx.list s
      obtain ⟨b, us, rfl, h2, r2⟩ := bx'.list s
      refine ⟨a, b, vs, us, rfl, rfl, h1, h2, by rw [r1.length, r2.length, most_eq]; exact h, fun p hp => ?_⟩
      refine q _ G _ [p] (Ext.own s hp) (.lst upd_same (OwA.of (RpA.append (BrA.val r1) (BrA.val r2)))) (fun c m => ?_) (by simp)
      have e : c = p := by simpa using m
      subst e
      exact ⟨s.free hp, hp⟩
    · cases e
  · cases e
theorem s2_catA : Sem2 K rCat .any .any .any dCat := by
  intro G H x y dx dy d Q s bx bx' e q
  unfold dCat at e
  split at e
  · rename_i xs ys
    split at e
    · rename_i h
      cases e
      obtain ⟨a, vs, rfl, h1, r1⟩ := bx.list s
      obtain ⟨b, us, rfl, h2, r2⟩ := bx'.list s
      refine ⟨a, b, vs, us, rfl, rfl, h1, h2, by rw [r1.length, r2.length, most_eq]; exact h, fun p hp => ?_⟩
      have X := Ext.new (o := .lst (vs ++ us)) s hp
      exact q _ _ _ X (.any (.lst upd_same (RpA.append ((r1.all s).mono X.h) ((r2.all s).mono X.h))))
    · cases e
  · cases e
/-- list * int -/
def dRep : D2
  | .list xs, .int k => if k < 9223372036854775808 ∧ -9223372036854775808 ≤ k ∧ xs.length * k.toNat ≤ most then some (.list (List.replicate k.toNat xs).flatten) else Option.none
  | _, _ => Option.none
theorem s2_rep : Sem2O K rRep (.lst .val) .any (.lst .val) dRep := by
  intro G H x y dx dy d Q s bx bx' e q
  unfold dRep at e
  split at e
  · rename_i xs k
    split at e
    · rename_i h
      cases e
      obtain ⟨a, vs, rfl, h1, r1⟩ := bx.list s
      cases bx'.int
      refine ⟨a, k, vs, rfl, rfl, h1, by omega, by omega, by rw [r1.length, most_eq]; exact h.2.2, fun p hp => ?_⟩
      refine q _ G _ [p] (Ext.own s hp) (.lst upd_same (OwA.of (RpA.rep (BrA.val r1) _))) (fun c m => ?_) (by simp)
      have e : c = p := by simpa using m
      subst e
      exact ⟨s.free hp, hp⟩
    · cases e
  · cases e
/-! == and in, by data -/
/-- two texts are compared as such, all else as data -/
def dEq : D2 := fun x y => if SeqAt.shaped x = true ∧ SeqAt.shaped y = true then some (.bool (PyData.eqv x y)) else Option.none
def dNe : D2 := fun x y => if SeqAt.shaped x = true ∧ SeqAt.shaped y = true then some (.bool (!PyData.eqv x y)) else Option.none
theorem s2_eq (k : Kd) : Sem2 K (rEqD K) .any .any k dEq := by
  intro G H x y dx dy d Q s bx bx' e q
  unfold dEq at e
  split at e
  · rename_i h
    cases e
    have r1 := bx.all s
    have r2 := bx'.all s
    exact ⟨dx, dy, r1.dp (shaped_lay h.1), r2.dp (shaped_lay h.2), h.1, h.2, q _ G H (Ext.refl s) (.rp (.bl _))⟩
  · cases e
theorem s2_ne (k : Kd) : Sem2 K (rNeD K) .any .any k dNe := by
  intro G H x y dx dy d Q s bx bx' e q
  unfold dNe at e
  split at e
  · rename_i h
    cases e
    have r1 := bx.all s
    have r2 := bx'.all s
    exact ⟨dx, dy, r1.dp (shaped_lay h.1), r2.dp (shaped_lay h.2), h.1, h.2, q _ G H (Ext.refl s) (.rp (.bl _))⟩
  · cases e
/-- x in a list -/
def dIn (neg : Bool) : D2
  | x, .list ys => if SeqAt.shaped x = true ∧ SeqAt.shaped (.list ys) = true then some (.bool (if neg = true then !ys.any (fun z => PyData.eqv z x) else ys.any fun z => PyData.eqv z x)) else Option.none
  | _, _ => Option.none
theorem s2_in (k : Kd) : Sem2 K (rInD K) .any .any k (dIn false) := by
  intro G H x y dx dy d Q s bx bx' e q
  unfold dIn at e
  split at e
  · rename_i ys
    split at e
    · rename_i h
      cases e
      have r1 := bx.all s
      have r2 := bx'.all s
      exact ⟨_, ys, r1.dp (shaped_lay h.1), r2.dp (shaped_lay h.2), h.1, h.2, q _ G H (Ext.refl s) (.rp (.bl _))⟩
    · cases e
  · cases e
theorem s2_notIn (k : Kd) : Sem2 K (rNotInD K) .any .any k (dIn true) := by
  intro G H x y dx dy d Q s bx bx' e q
  unfold dIn at e
  split at e
  · rename_i ys
    split at e
    · rename_i h
      cases e
      have r1 := bx.all s
      have r2 := bx'.all s
      exact ⟨_, ys, r1.dp (shaped_lay h.1), r2.dp (shaped_lay h.2), h.1, h.2, q _ G H (Ext.refl s) (.rp (.bl _))⟩
    · cases e
  · cases e
/-- is None -/
def dIsN (neg : Bool) : D2
  | .none, .none => some (.bool (!neg))
  | _, .none => some (.bool neg)
  | _, _ => Option.none
theorem s2_isN (k : Kd) : Sem2 K (fun x y H Q => y = .non ∧ Q (.bl (decide (x = .non))) H) .any .any k (dIsN false) := by
  intro G H x y dx dy d Q s bx bx' e q
  have hn := bx.none_iff s
  unfold dIsN at e
  split at e
  · cases e; cases bx'.none
    exact ⟨rfl, by rw [hn]; exact q _ G H (Ext.refl s) (.rp (.bl _))⟩
  · rename_i hne
    cases e; cases bx'.none
    refine ⟨rfl, ?_⟩
    rw [hn]
    cases dx <;> first | exact q _ G H (Ext.refl s) (.rp (.bl _)) | exact absurd rfl hne
  · cases e
theorem s2_notN (k : Kd) : Sem2 K (fun x y H Q => y = .non ∧ Q (.bl (!decide (x = .non))) H) .any .any k (dIsN true) := by
  intro G H x y dx dy d Q s bx bx' e q
  have hn := bx.none_iff s
  unfold dIsN at e
  split at e
  · cases e; cases bx'.none
    exact ⟨rfl, by rw [hn]; exact q _ G H (Ext.refl s) (.rp (.bl _))⟩
  · rename_i hne
    cases e; cases bx'.none
    refine ⟨rfl, ?_⟩
    rw [hn]
    cases dx <;> first | exact q _ G H (Ext.refl s) (.rp (.bl _)) | exact absurd rfl hne
  · cases e
/-! -x -/
def eNeg (a : Ev) : Ev := fun ρ => (a ρ).bind fun x => match x with | .int i => some (.int (-i)) | _ => Option.none
theorem sem_neg {t : TE} {f : Ev} (k : Kd) (h : SemE K t .any f) : SemE K (tUn (rU fun i => .int (-i)) t) k (eNeg f) := by
  intro G H σ ρ fp d Q s S e q
  unfold eNeg at e
  obtain ⟨x, e1, e⟩ := Option.bind_eq_some_iff.mp e
  split at e
  · cases e
    refine h G H σ ρ fp _ _ s S e1 fun v G1 H1 X1 b1 => ?_
    cases b1.int
    exact ⟨_, rfl, q _ G1 H1 X1 (.rp (.int _))⟩
  · cases e
/-! ### items, slices -/
theorem atI_map {α β : Type} {xs : List α} {ys : List β} (hl : xs.length = ys.length) {i : Int} {y : β} (h : atI ys i = some y) : ∃ j : Nat, ys[j]? = some y ∧ ∀ x, xs[j]? = some x → atI xs i = some x := by
  unfold atI at h ⊢
  rw [hl]
  obtain ⟨j, e1, e2⟩ := Option.bind_eq_some_iff.mp h
  exact ⟨j, e2, fun x hx => by rw [e1]; exact hx⟩
/-- x[i] of a list or a tuple -/
def dIx : D2
  | .list xs, .int i => atI xs i
  | .tuple xs, .int i => atI xs i
  | .dict [(.none, .list xs)], .int i => atI xs i
  | _, _ => Option.none
theorem s2_ix (k : Kd) : Sem2 K (fun x y H Q => rIxL K x y H Q ∨ rIxT K x y H Q) k .any k.it dIx := by
  intro G H x y dx dy d Q s bx bx' e q
  unfold dIx at e
  split at e
  · rename_i xs i
    obtain ⟨a, vs, rfl, h1, r1⟩ := bx.list s
    cases bx'.int
    obtain ⟨j, ej, hv⟩ := atI_map r1.length e
    obtain ⟨v, e1, b⟩ := r1.get ej
    exact .inl ⟨a, vs, i, v, rfl, rfl, .inl (.inl h1), hv v e1, q _ G H (Ext.refl s) b⟩
  · rename_i xs i
    obtain ⟨a, vs, rfl, h1, r1⟩ := bx.tuple s
    cases bx'.int
    obtain ⟨j, ej, hv⟩ := atI_map r1.length e
    obtain ⟨v, e1, b⟩ := r1.get ej
    refine .inr ⟨a, vs, i, v, rfl, rfl, .inl (.inl h1), hv v e1, q _ G H (Ext.refl s) ?_⟩
    cases k with
    | val => exact b
    | any => exact b
    | lst k => exact .rp (Br.val b)
  · rename_i xs i
    obtain ⟨a, ns, rfl, rfl, hq⟩ := bx.script s
    cases bx'.int
    obtain ⟨j, ej, hv⟩ := atI_map (xs := ns.map V.int) (by simp) e
    rw [List.getElem?_map] at ej
    obtain ⟨n, hn, rfl⟩ := Option.map_eq_some_iff.mp ej
    exact .inl ⟨a, ns.map V.int, i, .int n, rfl, rfl, hq, hv _ (by rw [List.getElem?_map, hn]; rfl), q _ G H (Ext.refl s) (.rp (.int n))⟩
  · cases e
end DL

/-! DLc: slices, built-ins, tests, calls, what is walked, targets, comprehensions. -/
namespace DL
open PySem PySem.Spec PyProof.Rows L2
variable {K : PySem.W.Frag}

/-! ### slices -/
def SemP (K : PySem.W.Frag) (t : TO) (f : Env → Option (Option Int)) : Prop := ∀ (G H : Hp) (σ : L2.St) (ρ : Env) (fp : List Addr) (o : Option Int) (Q : Option Int → Hp → Prop), Same G H → Sl K G H σ ρ fp → f ρ = some o →
  (∀ G' H', Ext G H G' H' → Q o H') → t σ H Q
def pNone : Env → Option (Option Int) := fun _ => some Option.none
def pSome (a : Ev) : Env → Option (Option Int) := fun ρ => (a ρ).bind fun x => match x with | .int i => some (some i) | _ => Option.none
theorem semp_none : SemP K tNoPart pNone := by
  intro G H σ ρ fp o Q s S e q
  cases e
  exact q G H (Ext.refl s)
theorem semp_some {t : TE} {f : Ev} (h : SemE K t .any f) : SemP K (tPart t) (pSome f) := by
  intro G H σ ρ fp o Q s S e q
  unfold pSome at e
  obtain ⟨x, e1, e⟩ := Option.bind_eq_some_iff.mp e
  split at e
  · cases e
    refine h G H σ ρ fp _ _ s S e1 fun v G1 H1 X1 b1 => ?_
    cases b1.int
    exact ⟨_, rfl, q G1 H1 X1⟩
  · cases e
def cutG {α : Type} (xs : List α) (lo hi : Option Int) : List α := (xs.drop (HT.sIx xs.length 0 lo)).take (HT.sIx xs.length xs.length hi - HT.sIx xs.length 0 lo)
theorem RpA.cut {G : Hp} {vs : List V} {ds : List PyData} (r : RpA K G vs ds) (lo hi : Option Int) : RpA K G (cutV vs lo hi) (cutG ds lo hi) := by
  unfold cutV cutG
  rw [r.length]
  exact (r.drop _).take _
def eCutL (a : Ev) (lo hi : Env → Option (Option Int)) : Ev := fun ρ => (a ρ).bind fun x => (lo ρ).bind fun l => (hi ρ).bind fun u => match x with
  | .list xs => some (.list (cutG xs l u))
  | _ => Option.none
theorem sem_cutL {r' : V → Option Int → Option Int → Hp → VK → Prop} {te : TE} {tl th : TO} {f : Ev} {fl fh : Env → Option (Option Int)} (h : SemE K te (.lst .val) f) (hl : SemP K tl fl) (hh : SemP K th fh) :
    SemO K (tSl (fun x lo hi H Q => rSlL K x lo hi H Q ∨ r' x lo hi H Q) te tl th) (.lst .val) (eCutL f fl fh) := by
  intro G H σ ρ fp d Q s S e q
  unfold eCutL at e
  obtain ⟨x, e1, e⟩ := Option.bind_eq_some_iff.mp e
  obtain ⟨l, e2, e⟩ := Option.bind_eq_some_iff.mp e
  obtain ⟨u, e3, e⟩ := Option.bind_eq_some_iff.mp e
  split at e
  · cases e
    refine h G H σ ρ fp _ _ s S e1 fun v G1 H1 X1 b1 => ?_
    refine hl G1 H1 σ ρ fp _ _ X1.s (S.mono X1.g X1.h) e2 fun G2 H2 X2 => ?_
    refine hh G2 H2 σ ρ fp _ _ X2.s (S.mono (X1.g.trans X2.g) (X1.h.trans X2.h)) e3 fun G3 H3 X3 => ?_
    obtain ⟨a, vs, rfl, h1, r1⟩ := ((b1.mono X2.g X2.h).mono X3.g X3.h).list X3.s
    refine .inl ⟨a, vs, rfl, .inl (.inl h1), fun p hp => ?_⟩
    have X := (X1.trans X2).trans X3
    refine q _ G3 _ [p] (X.trans (Ext.own X3.s hp)) (.lst upd_same (OwA.of (RpA.cut (BrA.val r1) _ _))) (fun c m => ?_) (by simp)
    have e : c = p := by simpa using m
    subst e
    exact ⟨X3.s.free hp, X.h.free hp⟩
  · cases e
/-- a slice of a list or a tuple, as a value -/
def eCut (a : Ev) (lo hi : Env → Option (Option Int)) : Ev := fun ρ => (a ρ).bind fun x => (lo ρ).bind fun l => (hi ρ).bind fun u => match x with
  | .list xs => some (.list (cutG xs l u))
  | .tuple xs => some (.tuple (cutG xs l u))
  | _ => Option.none
theorem sIx_full {n : Nat} {lo hi : Option Int} (h1 : HT.sIx n 0 lo = 0) (h2 : HT.sIx n n hi = n) {α : Type} {xs : List α} (hn : xs.length = n) : cutG xs lo hi = xs := by
  unfold cutG
  rw [hn, h1, h2, List.drop_zero, Nat.sub_zero, ← hn, List.take_length]
theorem sem_cut {te : TE} {tl th : TO} {f : Ev} {fl fh : Env → Option (Option Int)} (k : Kd) (h : SemE K te (.lst .val) f) (hl : SemP K tl fl) (hh : SemP K th fh) :
    SemE K (tSl (fun x lo hi H Q => rSlL K x lo hi H Q ∨ rSlA K x lo hi H Q) te tl th) k (eCut f fl fh) := by
  intro G H σ ρ fp d Q s S e q
  have e0 := e
  unfold eCut at e
  obtain ⟨x, e1, e⟩ := Option.bind_eq_some_iff.mp e
  obtain ⟨l, e2, e⟩ := Option.bind_eq_some_iff.mp e
  obtain ⟨u, e3, e⟩ := Option.bind_eq_some_iff.mp e
  split at e
  · cases e
    refine (sem_cutL (K := K) (r' := rSlA K) h hl hh).e G H σ ρ fp _ Q s S ?_ q
    unfold eCutL
    rw [e1, e2, e3]; rfl
  · cases e
    refine h G H σ ρ fp _ _ s S e1 fun v G1 H1 X1 b1 => ?_
    refine hl G1 H1 σ ρ fp _ _ X1.s (S.mono X1.g X1.h) e2 fun G2 H2 X2 => ?_
    refine hh G2 H2 σ ρ fp _ _ X2.s (S.mono (X1.g.trans X2.g) (X1.h.trans X2.h)) e3 fun G3 H3 X3 => ?_
    have b3 := (b1.mono X2.g X2.h).mono X3.g X3.h
    cases b3 with
    | rp b4 =>
    cases b4 with
    | tup h1 r1 =>
      rename_i a vs
      have X := (X1.trans X2).trans X3
      refine .inr ⟨a, vs, rfl, .inl (.inl (X3.s _ _ h1)), fun hw => ?_, fun _ p hp => ?_⟩
      · refine q _ G3 H3 X (.rp ?_)
        rw [sIx_full hw.1 hw.2 r1.length.symm]
        exact .tup h1 r1
      · have X4 := Ext.new (o := .tup (cutV vs l u)) X3.s hp
        exact q _ _ _ (X.trans X4) (.rp (.tup upd_same ((RpA.cut r1 _ _).mono X4.g)))
  · cases e

/-! ### built-ins -/
abbrev DA := List PyData → Option PyData
def SemC (K : PySem.W.Frag) (r : List V → Hp → VK → Prop) (k l : Kd) (op : DA) : Prop := ∀ (G H : Hp) (vs : List V) (ds : List PyData) (d : PyData) (Q : VK), Same G H → BrA K G H k vs ds → op ds = some d →
  (∀ v G' H', Ext G H G' H' → Br K G' H' l v d → Q v H') → r vs H Q
def SemCO (K : PySem.W.Frag) (r : List V → Hp → VK → Prop) (k l : Kd) (op : DA) : Prop := ∀ (G H : Hp) (vs : List V) (ds : List PyData) (d : PyData) (Q : VK), Same G H → BrA K G H k vs ds → op ds = some d →
  (∀ v G' H' f', Ext G H G' H' → Ow K G' H' l v d f' → (∀ a ∈ f', G' a = Option.none ∧ H a = Option.none) → f'.Nodup → Q v H') → r vs H Q
def eCB (op : DA) (g : Env → Option (List PyData)) : Ev := fun ρ => (g ρ).bind op
theorem sem_cb {r : List V → Hp → VK → Prop} {k l : Kd} {op : DA} {t : TA} {g : Env → Option (List PyData)} (h : SemC K r k l op) (ha : SemA K t k g) : SemE K (tCB r t) l (eCB op g) := by
  intro G H σ ρ fp d Q s S e q
  unfold eCB at e
  obtain ⟨ds, e1, e⟩ := Option.bind_eq_some_iff.mp e
  refine ha G H σ ρ fp _ _ s S e1 fun vs G1 H1 X1 b1 => ?_
  exact h G1 H1 vs ds d Q X1.s b1 e fun v G2 H2 X2 b2 => q v G2 H2 (X1.trans X2) b2
theorem sem_cbO {r : List V → Hp → VK → Prop} {k l : Kd} {op : DA} {t : TA} {g : Env → Option (List PyData)} (h : SemCO K r k l op) (ha : SemA K t k g) : SemO K (tCB r t) l (eCB op g) := by
  intro G H σ ρ fp d Q s S e q
  unfold eCB at e
  obtain ⟨ds, e1, e⟩ := Option.bind_eq_some_iff.mp e
  refine ha G H σ ρ fp _ _ s S e1 fun vs G1 H1 X1 b1 => ?_
  exact h G1 H1 vs ds d Q X1.s b1 e fun v G2 H2 f' X2 b2 n nd => q v G2 H2 f' (X1.trans X2) b2 (Own.back X1 n) nd
theorem BrA.one {G H : Hp} {k : Kd} {vs : List V} {d : PyData} (h : BrA K G H k vs [d]) : ∃ v, vs = [v] ∧ Br K G H k v d := by
  cases h with
  | cons a r => cases r; exact ⟨_, rfl, a⟩
theorem BrA.two {G H : Hp} {k : Kd} {vs : List V} {d e : PyData} (h : BrA K G H k vs [d, e]) : ∃ v w, vs = [v, w] ∧ Br K G H k v d ∧ Br K G H k w e := by
  cases h with
  | cons a r =>
    obtain ⟨w, rfl, b⟩ := r.one
    exact ⟨_, _, rfl, a, b⟩
def dLen : DA
  | [.list xs] => some (.int xs.length)
  | [.tuple xs] => some (.int xs.length)
  | [.dict [(.none, .list xs)]] => some (.int xs.length)
  | _ => Option.none
theorem sc_len (l : Kd) : SemC K (fun xs H Q => ∃ p ys, xs = [.ref p] ∧ (SqL K H p ys ∨ SqT K H p ys) ∧ Q (.int ys.length) H) .any l dLen := by
  intro G H vs ds d Q s B e q
  unfold dLen at e
  split at e
  · cases e
    obtain ⟨v, rfl, b⟩ := B.one
    obtain ⟨a, us, rfl, h1, r1⟩ := b.list s
    exact ⟨a, us, rfl, .inl (.inl (.inl h1)), by rw [r1.length]; exact q _ G H (Ext.refl s) (.rp (.int _))⟩
  · cases e
    obtain ⟨v, rfl, b⟩ := B.one
    obtain ⟨a, us, rfl, h1, r1⟩ := b.tuple s
    exact ⟨a, us, rfl, .inr (.inl (.inl h1)), by rw [r1.length]; exact q _ G H (Ext.refl s) (.rp (.int _))⟩
  · cases e
    obtain ⟨v, rfl, b⟩ := B.one
    obtain ⟨a, ns, rfl, rfl, hq⟩ := b.script s
    exact ⟨a, _, rfl, .inl hq, by rw [List.length_map]; exact q _ G H (Ext.refl s) (.rp (by rw [List.length_map]; exact .int _))⟩
  · cases e
def dAbs : DA
  | [.int i] => some (.int (if i < 0 then -i else i))
  | _ => Option.none
theorem sc_abs (l : Kd) : SemC K (fun xs H Q => ∃ i, xs = [.int i] ∧ Q (.int (if i < 0 then -i else i)) H) .any l dAbs := by
  intro G H vs ds d Q s B e q
  unfold dAbs at e
  split at e
  · cases e
    obtain ⟨v, rfl, b⟩ := B.one
    cases b.int
    exact ⟨_, rfl, q _ G H (Ext.refl s) (.rp (.int _))⟩
  · cases e
def dMin2 : DA
  | [.int i, .int j] => some (.int (if j < i then j else i))
  | _ => Option.none
def dMax2 : DA
  | [.int i, .int j] => some (.int (if j > i then j else i))
  | _ => Option.none
theorem sc_min2 (l : Kd) : SemC K (fun xs H Q => ∃ i j, xs = [.int i, .int j] ∧ Q (.int (if j < i then j else i)) H) .any l dMin2 := by
  intro G H vs ds d Q s B e q
  unfold dMin2 at e
  split at e
  · cases e
    obtain ⟨v, w, rfl, b, b'⟩ := B.two
    cases b.int; cases b'.int
    exact ⟨_, _, rfl, q _ G H (Ext.refl s) (.rp (.int _))⟩
  · cases e
theorem sc_max2 (l : Kd) : SemC K (fun xs H Q => ∃ i j, xs = [.int i, .int j] ∧ Q (.int (if j > i then j else i)) H) .any l dMax2 := by
  intro G H vs ds d Q s B e q
  unfold dMax2 at e
  split at e
  · cases e
    obtain ⟨v, w, rfl, b, b'⟩ := B.two
    cases b.int; cases b'.int
    exact ⟨_, _, rfl, q _ G H (Ext.refl s) (.rp (.int _))⟩
  · cases e
def dInt : DA
  | [.int i] => some (.int i)
  | [.bool b] => some (.int (if b then 1 else 0))
  | _ => Option.none
theorem sc_int (l : Kd) : SemC K (fun xs H Q => (∃ i, xs = [.int i] ∧ Q (.int i) H) ∨ ∃ k, xs = [.bl k] ∧ Q (.int (if k then 1 else 0)) H) .any l dInt := by
  intro G H vs ds d Q s B e q
  unfold dInt at e
  split at e
  · cases e
    obtain ⟨v, rfl, b⟩ := B.one
    cases b.int
    exact .inl ⟨_, rfl, q _ G H (Ext.refl s) (.rp (.int _))⟩
  · cases e
    obtain ⟨v, rfl, b⟩ := B.one
    cases b.bool
    exact .inr ⟨_, rfl, q _ G H (Ext.refl s) (.rp (.int _))⟩
  · cases e
def dGcd : DA
  | [.int i, .int j] => some (.int ((Nat.gcd i.natAbs j.natAbs : Nat) : Int))
  | _ => Option.none
theorem sc_gcd (l : Kd) : SemC K rGcd .any l dGcd := by
  intro G H vs ds d Q s B e q
  unfold dGcd at e
  split at e
  · cases e
    obtain ⟨v, w, rfl, b, b'⟩ := B.two
    cases b.int; cases b'.int
    exact ⟨_, _, rfl, q _ G H (Ext.refl s) (.rp (.int _))⟩
  · cases e
/-- the ints of a list of data -/
def asInts : List PyData → Option (List Int)
  | [] => some []
  | .int i :: r => (asInts r).bind fun l => some (i :: l)
  | _ :: _ => Option.none
def asBools : List PyData → Option (List Bool)
  | [] => some []
  | .bool i :: r => (asBools r).bind fun l => some (i :: l)
  | _ :: _ => Option.none
theorem asInts_eq : ∀ {ds : List PyData} {ns : List Int}, asInts ds = some ns → ds = ns.map PyData.int
  | [], _, e => by cases e; rfl
  | .int i :: r, _, e => by
    unfold asInts at e
    obtain ⟨l, e1, e⟩ := Option.bind_eq_some_iff.mp e
    cases e
    rw [asInts_eq e1]; rfl
  | .none :: _, _, e => by cases e
  | .bool _ :: _, _, e => by cases e
  | .str _ :: _, _, e => by cases e
  | .list _ :: _, _, e => by cases e
  | .tuple _ :: _, _, e => by cases e
  | .dict _ :: _, _, e => by cases e
theorem asInts_map : ∀ ns : List Int, asInts (ns.map PyData.int) = some ns
  | [] => rfl
  | i :: r => by rw [List.map_cons]; unfold asInts; rw [asInts_map r]; rfl
theorem asBools_eq : ∀ {ds : List PyData} {ns : List Bool}, asBools ds = some ns → ds = ns.map PyData.bool
  | [], _, e => by cases e; rfl
  | .bool i :: r, _, e => by
    unfold asBools at e
    obtain ⟨l, e1, e⟩ := Option.bind_eq_some_iff.mp e
    cases e
    rw [asBools_eq e1]; rfl
  | .none :: _, _, e => by cases e
  | .int _ :: _, _, e => by cases e
  | .str _ :: _, _, e => by cases e
  | .list _ :: _, _, e => by cases e
  | .tuple _ :: _, _, e => by cases e
  | .dict _ :: _, _, e => by cases e
theorem asBools_map : ∀ ns : List Bool, asBools (ns.map PyData.bool) = some ns
  | [] => rfl
  | i :: r => by rw [List.map_cons]; unfold asBools; rw [asBools_map r]; rfl
theorem BrA.ints {G H : Hp} (s : Same G H) {k : Kd} {vs : List V} {ns : List Int} (h : BrA K G H k vs (ns.map PyData.int)) : vs = ns.map V.int := RpA.ints_inv (h.all s)
theorem BrA.bools {G H : Hp} (s : Same G H) {k : Kd} {vs : List V} {ns : List Bool} (h : BrA K G H k vs (ns.map PyData.bool)) : vs = ns.map V.bl := RpA.bools_inv (h.all s)
def dSum : DA
  | [.list xs] => (asInts xs).bind fun ns => some (.int ns.sum)
  | _ => Option.none
theorem sc_sum (l : Kd) : SemC K (rSum K) .any l dSum := by
  intro G H vs ds d Q s B e q
  unfold dSum at e
  split at e
  · obtain ⟨ns, e1, e⟩ := Option.bind_eq_some_iff.mp e
    cases e
    have z := asInts_eq e1
    subst z
    obtain ⟨v, rfl, b⟩ := B.one
    obtain ⟨a, us, rfl, h1, r1⟩ := b.list s
    cases r1.ints s
    exact ⟨a, ns, rfl, .inl (.inl h1), q _ G H (Ext.refl s) (.rp (.int _))⟩
  · cases e
def dAll (any : Bool) : DA
  | [.list xs] => (asBools xs).bind fun ns => some (.bool (if any = true then ns.any id else ns.all id))
  | _ => Option.none
theorem sc_all (l : Kd) : SemC K (rAll K) .any l (dAll false) := by
  intro G H vs ds d Q s B e q
  unfold dAll at e
  split at e
  · obtain ⟨ns, e1, e⟩ := Option.bind_eq_some_iff.mp e
    cases e
    have z := asBools_eq e1
    subst z
    obtain ⟨v, rfl, b⟩ := B.one
    obtain ⟨a, us, rfl, h1, r1⟩ := b.list s
    cases r1.bools s
    exact ⟨a, ns, rfl, .inl (.inl h1), q _ G H (Ext.refl s) (.rp (.bl _))⟩
  · cases e
theorem sc_any (l : Kd) : SemC K (rAny K) .any l (dAll true) := by
  intro G H vs ds d Q s B e q
  unfold dAll at e
  split at e
  · obtain ⟨ns, e1, e⟩ := Option.bind_eq_some_iff.mp e
    cases e
    have z := asBools_eq e1
    subst z
    obtain ⟨v, rfl, b⟩ := B.one
    obtain ⟨a, us, rfl, h1, r1⟩ := b.list s
    cases r1.bools s
    exact ⟨a, ns, rfl, .inl (.inl h1), q _ G H (Ext.refl s) (.rp (.bl _))⟩
  · cases e
/-- list(x) of a list or a tuple -/
def dList : DA
  | [.list xs] => some (.list xs)
  | [.tuple xs] => some (.list xs)
  | _ => Option.none
theorem sc_list : SemCO K (fun xs H Q => ∃ p ys, xs = [.ref p] ∧ (SqL K H p ys ∨ SqT K H p ys) ∧ ∀ l, H l = Option.none → Q (.ref l) (upd H l (.lst ys))) (.lst .val) (.lst .val) dList := by
  intro G H vs ds d Q s B e q
  unfold dList at e
  have fin : ∀ (us : List V) (xs : List PyData), RpA K G us xs → d = .list xs → ∀ l, H l = Option.none → Q (.ref l) (upd H l (.lst us)) := fun us xs r z l hl => by
    subst z
    refine q _ G _ [l] (Ext.own s hl) (.lst upd_same (OwA.of r)) (fun c m => ?_) (by simp)
    have e : c = l := by simpa using m
    subst e
    exact ⟨s.free hl, hl⟩
  split at e
  · cases e
    obtain ⟨v, rfl, b⟩ := B.one
    obtain ⟨a, us, rfl, h1, r1⟩ := b.list s
    exact ⟨a, us, rfl, .inl (.inl (.inl h1)), fin us _ (BrA.val r1) rfl⟩
  · cases e
    obtain ⟨v, rfl, b⟩ := B.one
    obtain ⟨a, us, rfl, h1, r1⟩ := b.tuple s
    exact ⟨a, us, rfl, .inr (.inl (.inl h1)), fin us _ (BrA.val r1) rfl⟩
  · cases e
/-- tuple(x) -/
def dTuple : DA
  | [.list xs] => some (.tuple xs)
  | [.tuple xs] => some (.tuple xs)
  | _ => Option.none
theorem sc_tuple (l : Kd) : SemC K (fun xs H Q => ∃ p ys, xs = [.ref p] ∧ ((SqL K H p ys ∧ ∀ l, H l = Option.none → Q (.ref l) (upd H l (.tup ys))) ∨ (SqT K H p ys ∧ Q (.ref p) H))) (.lst .val) l dTuple := by
  intro G H vs ds d Q s B e q
  unfold dTuple at e
  split at e
  · cases e
    obtain ⟨v, rfl, b⟩ := B.one
    obtain ⟨a, us, rfl, h1, r1⟩ := b.list s
    refine ⟨a, us, rfl, .inl ⟨.inl (.inl h1), fun l hl => ?_⟩⟩
    have X := Ext.new (o := .tup us) s hl
    exact q _ _ _ X (.rp (.tup upd_same ((BrA.val r1).mono X.g)))
  · cases e
    obtain ⟨v, rfl, b⟩ := B.one
    cases b with
    | rp h =>
      cases h with
      | tup h1 r1 => exact ⟨_, _, rfl, .inr ⟨.inl (.inl (s _ _ h1)), q _ G H (Ext.refl s) (.rp (.tup h1 r1))⟩⟩
  · cases e
/-- sorted(x) of ints -/
def ins (x : Int) : List Int → List Int
  | [] => [x]
  | y :: r => if x ≤ y then x :: y :: r else y :: ins x r
def srt : List Int → List Int
  | [] => []
  | x :: r => ins x (srt r)
theorem ins_perm (x : Int) : ∀ l : List Int, (ins x l).Perm (x :: l)
  | [] => List.Perm.refl _
  | y :: r => by
    unfold ins
    split
    · exact List.Perm.refl _
    · exact ((ins_perm x r).cons y).trans (List.Perm.swap x y r)
theorem srt_perm : ∀ l : List Int, (srt l).Perm l
  | [] => List.Perm.refl _
  | x :: r => (ins_perm x (srt r)).trans ((srt_perm r).cons x)
theorem ins_sorted (x : Int) : ∀ l : List Int, l.Pairwise (· ≤ ·) → (ins x l).Pairwise (· ≤ ·)
  | [], _ => by simp [ins]
  | y :: r, h => by
    rw [List.pairwise_cons] at h
    unfold ins
    split
    · rename_i c
      refine List.Pairwise.cons (fun z m => ?_) (List.Pairwise.cons h.1 h.2)
      rcases List.mem_cons.mp m with rfl | m
      · exact c
      · exact Int.le_trans c (h.1 z m)
    · rename_i c
      refine List.Pairwise.cons (fun z m => ?_) (ins_sorted x r h.2)
      rcases List.mem_cons.mp ((ins_perm x r).mem_iff.mp m) with rfl | m
      · omega
      · exact h.1 z m
theorem srt_sorted : ∀ l : List Int, (srt l).Pairwise (· ≤ ·)
  | [] => List.Pairwise.nil
  | x :: r => ins_sorted x _ (srt_sorted r)
theorem sorted_unique : ∀ {l m : List Int}, l.Perm m → l.Pairwise (· ≤ ·) → m.Pairwise (· ≤ ·) → l = m
  | [], m, p, _, _ => by rw [List.nil_perm] at p; exact p.symm
  | x :: l, [], p, _, _ => by have := p.length_eq; simp at this
  | x :: l, y :: m, p, h1, h2 => by
    have a := List.pairwise_cons.mp h1
    have b := List.pairwise_cons.mp h2
    have e : x = y := by
      rcases List.mem_cons.mp (p.mem_iff.mp (List.mem_cons_self (a := x))) with e | mx
      · exact e
      · rcases List.mem_cons.mp (p.mem_iff.mpr (List.mem_cons_self (a := y))) with e | my
        · exact e.symm
        · have := a.1 y my; have := b.1 x mx; omega
    subst e
    rw [sorted_unique (List.Perm.cons_inv p) a.2 b.2]
theorem srt_eq {l m : List Int} (p : m.Perm l) (h : m.Pairwise (· ≤ ·)) : m = srt l := sorted_unique (p.trans (srt_perm l).symm) h (srt_sorted l)
def dSorted : DA
  | [.list xs] => (asInts xs).bind fun ns => some (.list ((srt ns).map PyData.int))
  | _ => Option.none
theorem sc_sorted : SemCO K (rSortedI K) .any (.lst .val) dSorted := by
  intro G H vs ds d Q s B e q
  unfold dSorted at e
  split at e
  · obtain ⟨ns, e1, e⟩ := Option.bind_eq_some_iff.mp e
    cases e
    have z := asInts_eq e1
    subst z
    obtain ⟨v, rfl, b⟩ := B.one
    obtain ⟨a, us, rfl, h1, r1⟩ := b.list s
    cases r1.ints s
    refine ⟨a, ns, rfl, .inl (.inl h1), fun ns' p hp hs hn => ?_⟩
    cases srt_eq hp hs
    refine q _ G _ [p] (Ext.own s hn) (.lst upd_same (OwA.of (RpA.ints _))) (fun c m => ?_) (by simp)
    have e : c = p := by simpa using m
    subst e
    exact ⟨s.free hn, hn⟩
  · cases e

/-! ### tests -/
def asB : PyData → Option Bool
  | .bool b => some b
  | _ => Option.none
def bV (f : Ev) : Env → Option Bool := fun ρ => (f ρ).bind asB
theorem semt_b {t : TE} {f : Ev} (h : SemE K t .any f) : SemT K (tB t) (bV f) := by
  intro G H σ ρ fp b Q s S e q
  unfold bV at e
  obtain ⟨x, e1, e⟩ := Option.bind_eq_some_iff.mp e
  unfold asB at e
  split at e
  · cases e
    refine h G H σ ρ fp _ _ s S e1 fun v G1 H1 X1 b1 => ?_
    cases b1.bool
    exact ⟨_, rfl, q G1 H1 X1⟩
  · cases e
theorem semt_test {t : TE} {f : Ev} (h : SemE K t .any f) : SemT K (tTest t) (bV f) := semt_b h
def bAnd (f g : Env → Option Bool) : Env → Option Bool := fun ρ => (f ρ).bind fun b => if b = true then g ρ else some false
def bOr (f g : Env → Option Bool) : Env → Option Bool := fun ρ => (f ρ).bind fun b => if b = true then some true else g ρ
def bNot (f : Env → Option Bool) : Env → Option Bool := fun ρ => (f ρ).bind fun b => some (!b)
theorem semt_and {t u : TT} {f g : Env → Option Bool} (h : SemT K t f) (h2 : SemT K u g) : SemT K (tAnd t u) (bAnd f g) := by
  intro G H σ ρ fp b Q s S e q
  unfold bAnd at e
  obtain ⟨c, e1, e⟩ := Option.bind_eq_some_iff.mp e
  refine h G H σ ρ fp _ _ s S e1 fun G1 H1 X1 => ?_
  cases c with
  | true =>
    rw [if_pos rfl] at e ⊢
    exact h2 G1 H1 σ ρ fp _ _ X1.s (S.mono X1.g X1.h) e fun G2 H2 X2 => q G2 H2 (X1.trans X2)
  | false =>
    rw [if_neg Bool.false_ne_true] at e ⊢
    cases e
    exact q G1 H1 X1
theorem semt_or {t u : TT} {f g : Env → Option Bool} (h : SemT K t f) (h2 : SemT K u g) : SemT K (tOr t u) (bOr f g) := by
  intro G H σ ρ fp b Q s S e q
  unfold bOr at e
  obtain ⟨c, e1, e⟩ := Option.bind_eq_some_iff.mp e
  refine h G H σ ρ fp _ _ s S e1 fun G1 H1 X1 => ?_
  cases c with
  | true =>
    rw [if_pos rfl] at e ⊢
    cases e
    exact q G1 H1 X1
  | false =>
    rw [if_neg Bool.false_ne_true] at e ⊢
    exact h2 G1 H1 σ ρ fp _ _ X1.s (S.mono X1.g X1.h) e fun G2 H2 X2 => q G2 H2 (X1.trans X2)
theorem semt_not {t : TT} {f : Env → Option Bool} (h : SemT K t f) : SemT K (tNot t) (bNot f) := by
  intro G H σ ρ fp b Q s S e q
  unfold bNot at e
  obtain ⟨c, e1, e⟩ := Option.bind_eq_some_iff.mp e
  cases e
  exact h G H σ ρ fp _ _ s S e1 fun G1 H1 X1 => q G1 H1 X1
def bYes : Env → Option Bool := fun _ => some true
theorem semt_yes : SemT K tYes bYes := by
  intro G H σ ρ fp b Q s S e q
  cases e
  exact q G H (Ext.refl s)
/-- and, or, not as values -/
def eAnd (f g : Ev) : Ev := fun ρ => (bV f ρ).bind fun b => if b = true then g ρ else some (.bool false)
def eOr (f g : Ev) : Ev := fun ρ => (bV f ρ).bind fun b => if b = true then some (.bool true) else g ρ
def eNot (f : Ev) : Ev := fun ρ => (bV f ρ).bind fun b => some (.bool (!b))
theorem asB_some {x : PyData} {b : Bool} (h : asB x = some b) : x = .bool b := by
  unfold asB at h
  split at h
  · cases h; rfl
  · cases h
theorem sem_and {t u : TE} {f g : Ev} (k : Kd) (h : SemE K t .any f) (h2 : SemE K u k g) : SemE K (tAndV t u) k (eAnd f g) := by
  intro G H σ ρ fp d Q s S e q
  unfold eAnd at e
  obtain ⟨c, e1, e⟩ := Option.bind_eq_some_iff.mp e
  refine semt_b h G H σ ρ fp _ _ s S e1 fun G1 H1 X1 => ?_
  cases c with
  | true =>
    rw [if_pos rfl] at e ⊢
    exact h2 G1 H1 σ ρ fp _ _ X1.s (S.mono X1.g X1.h) e fun v G2 H2 X2 b2 => q v G2 H2 (X1.trans X2) b2
  | false =>
    rw [if_neg Bool.false_ne_true] at e ⊢
    cases e
    exact q _ G1 H1 X1 (.rp (.bl _))
theorem sem_or {t u : TE} {f g : Ev} (k : Kd) (h : SemE K t .any f) (h2 : SemE K u k g) : SemE K (tOrV t u) k (eOr f g) := by
  intro G H σ ρ fp d Q s S e q
  unfold eOr at e
  obtain ⟨c, e1, e⟩ := Option.bind_eq_some_iff.mp e
  refine semt_b h G H σ ρ fp _ _ s S e1 fun G1 H1 X1 => ?_
  cases c with
  | true =>
    rw [if_pos rfl] at e ⊢
    cases e
    exact q _ G1 H1 X1 (.rp (.bl _))
  | false =>
    rw [if_neg Bool.false_ne_true] at e ⊢
    exact h2 G1 H1 σ ρ fp _ _ X1.s (S.mono X1.g X1.h) e fun v G2 H2 X2 b2 => q v G2 H2 (X1.trans X2) b2
theorem sem_not {t : TE} {f : Ev} (k : Kd) (h : SemE K t .any f) : SemE K (tNotV t) k (eNot f) := by
  intro G H σ ρ fp d Q s S e q
  unfold eNot at e
  obtain ⟨c, e1, e⟩ := Option.bind_eq_some_iff.mp e
  cases e
  exact semt_b h G H σ ρ fp _ _ s S e1 fun G1 H1 X1 => q _ G1 H1 X1 (.rp (.bl _))
def eIf (c : Env → Option Bool) (f g : Ev) : Ev := fun ρ => (c ρ).bind fun b => if b = true then f ρ else g ρ
theorem sem_if {t : TT} {u w : TE} {c : Env → Option Bool} {f g : Ev} {k : Kd} (h : SemT K t c) (h1 : SemE K u k f) (h2 : SemE K w k g) : SemE K (tIf t u w) k (eIf c f g) := by
  intro G H σ ρ fp d Q s S e q
  unfold eIf at e
  obtain ⟨b, e1, e⟩ := Option.bind_eq_some_iff.mp e
  refine h G H σ ρ fp _ _ s S e1 fun G1 H1 X1 => ?_
  cases b with
  | true =>
    rw [if_pos rfl] at e ⊢
    exact h1 G1 H1 σ ρ fp _ _ X1.s (S.mono X1.g X1.h) e fun v G2 H2 X2 b2 => q v G2 H2 (X1.trans X2) b2
  | false =>
    rw [if_neg Bool.false_ne_true] at e ⊢
    exact h2 G1 H1 σ ρ fp _ _ X1.s (S.mono X1.g X1.h) e fun v G2 H2 X2 b2 => q v G2 H2 (X1.trans X2) b2
/-- a < b < c -/
def eChain (o o' : D2) (a b c : Ev) : Ev := fun ρ => (a ρ).bind fun x => (b ρ).bind fun y => ((o x y).bind asB).bind fun k => if k = true then (c ρ).bind fun w => o' y w else some (.bool false)
theorem sem_chain {r r' : R2} {o o' : D2} {ta tb tc : TE} {fa fb fc : Ev} (k : Kd) (h : Sem2 K r .any .any .any o) (h' : Sem2 K r' .any .any k o') (ha : SemE K ta .any fa) (hb : SemE K tb .any fb) (hc : SemE K tc .any fc) :
    SemE K (tChain r r' ta tb tc) k (eChain o o' fa fb fc) := by
  intro G H σ ρ fp d Q s S e q
  unfold eChain at e
  obtain ⟨x, e1, e⟩ := Option.bind_eq_some_iff.mp e
  obtain ⟨y, e2, e⟩ := Option.bind_eq_some_iff.mp e
  obtain ⟨b, e34, e⟩ := Option.bind_eq_some_iff.mp e
  obtain ⟨z, e3, e4⟩ := Option.bind_eq_some_iff.mp e34
  have ez := asB_some e4
  rw [ez] at e3
  refine ha G H σ ρ fp _ _ s S e1 fun v G1 H1 X1 b1 => ?_
  refine hb G1 H1 σ ρ fp _ _ X1.s (S.mono X1.g X1.h) e2 fun u G2 H2 X2 b2 => ?_
  refine h G2 H2 v u x y _ _ X2.s (b1.mono X2.g X2.h) b2 e3 fun w G3 H3 X3 b3 => ?_
  cases b3.bool
  have X := (X1.trans X2).trans X3
  refine ⟨b, rfl, ?_⟩
  cases b with
  | true =>
    rw [if_pos rfl] at e ⊢
    obtain ⟨w, e5, e⟩ := Option.bind_eq_some_iff.mp e
    refine hc G3 H3 σ ρ fp _ _ X3.s (S.mono X.g X.h) e5 fun w' G4 H4 X4 b4 => ?_
    exact h' G4 H4 u w' y w d Q X4.s ((b2.mono X3.g X3.h).mono X4.g X4.h) b4 e fun v' G5 H5 X5 b5 => q v' G5 H5 (X.trans (X4.trans X5)) b5
  | false =>
    rw [if_neg Bool.false_ne_true] at e ⊢
    cases e
    exact q _ G3 H3 X (.rp (.bl _))

/-! ### calls of defs -/
/-- a def that gives data -/
def spD (K : PySem.W.Frag) (m : DA) : Sp := fun vs H Q _ => ∃ (G : Hp) (ds : List PyData) (d : PyData), Same G H ∧ RpA K G vs ds ∧ m ds = some d ∧ ∀ v G' H', Ext G H G' H' → Rp K G' v d → Q v H'
/-- a def that gives something of one's own -/
def spO (K : PySem.W.Frag) (k : Kd) (m : DA) : Sp := fun vs H Q _ => ∃ (G : Hp) (ds : List PyData) (d : PyData), Same G H ∧ RpA K G vs ds ∧ m ds = some d ∧
  ∀ v G' H' f', Ext G H G' H' → Ow K G' H' k v d f' → (∀ a ∈ f', G' a = Option.none ∧ H a = Option.none) → f'.Nodup → Q v H'
theorem BrA.all' {G H : Hp} (s : Same G H) {k : Kd} {vs : List V} {ds : List PyData} (h : BrA K G H k vs ds) : RpA K H vs ds := h.all s
theorem sem_call {m : DA} {E : XK} {t : TA} {g : Env → Option (List PyData)} (k : Kd) (h : SemA K t .val g) : SemE K (tCall (spD K m) [] E t) k (eCB m g) := by
  intro G H σ ρ fp d Q s S e q
  unfold eCB at e
  obtain ⟨ds, e1, e⟩ := Option.bind_eq_some_iff.mp e
  refine h G H σ ρ fp _ _ s S e1 fun vs G1 H1 X1 b1 => ?_
  exact ⟨G1, ds, d, X1.s, by rw [List.append_nil]; exact b1.val, e, fun v G2 H2 X2 r => q v G2 H2 (X1.trans X2) (.rp r)⟩
theorem sem_callO {m : DA} {E : XK} {t : TA} {g : Env → Option (List PyData)} {k : Kd} (h : SemA K t .val g) : SemO K (tCall (spO K k m) [] E t) k (eCB m g) := by
  intro G H σ ρ fp d Q s S e q
  unfold eCB at e
  obtain ⟨ds, e1, e⟩ := Option.bind_eq_some_iff.mp e
  refine h G H σ ρ fp _ _ s S e1 fun vs G1 H1 X1 b1 => ?_
  exact ⟨G1, ds, d, X1.s, by rw [List.append_nil]; exact b1.val, e, fun v G2 H2 f' X2 r n nd => q v G2 H2 f' (X1.trans X2) r (Own.back X1 n) nd⟩
theorem sem_callA {m : DA} {E : XK} {t : TA} {g : Env → Option (List PyData)} (h : SemA K t .any g) : SemE K (tCall (spD K m) [] E t) .any (eCB m g) := by
  intro G H σ ρ fp d Q s S e q
  unfold eCB at e
  obtain ⟨ds, e1, e⟩ := Option.bind_eq_some_iff.mp e
  refine h G H σ ρ fp _ _ s S e1 fun vs G1 H1 X1 b1 => ?_
  refine ⟨H1, ds, d, Same.refl _, by rw [List.append_nil]; exact b1.all X1.s, e, fun v G2 H2 X2 r => ?_⟩
  exact q v G1 H2 (X1.trans ⟨Same.refl _, X2.h, X1.s.trans X2.h, fun _ _ e _ => e⟩) (.any (r.mono X2.s))
end DL

/-! DLd: what is walked, targets, comprehensions. -/
namespace DL
open PySem PySem.Spec PyProof.Rows L2
variable {K : PySem.W.Frag}

/-- fewer own lists -/
def Sb (f' f : List Addr) : Prop := ∃ l : List Addr, l.Perm f' ∧ List.Sublist l f
theorem Sb.refl (f : List Addr) : Sb f f := ⟨f, List.Perm.refl _, List.Sublist.refl _⟩
theorem Fp.sb {H0 G : Hp} {f f' : List Addr} (h : Fp H0 G f) (s : Sb f' f) : Fp H0 G f' := by
  obtain ⟨l, p, q⟩ := s
  exact (h.sub q).perm p.symm
theorem Sb.of_sub {f' f : List Addr} (h : List.Sublist f' f) : Sb f' f := ⟨f', List.Perm.refl _, h⟩
theorem sublist_perm {a b c : List Addr} (h : List.Sublist a b) (p : b.Perm c) : ∃ l : List Addr, l.Perm a ∧ List.Sublist l c := by
  obtain ⟨l, q, r⟩ := List.exists_perm_sublist h p
  exact ⟨l, q, r⟩
theorem Sb.trans {a b c : List Addr} (h : Sb a b) (g : Sb b c) : Sb a c := by
  obtain ⟨l, p, s⟩ := h
  obtain ⟨m, q, t⟩ := g
  obtain ⟨n, u, v⟩ := sublist_perm s q.symm
  exact ⟨n, u.trans p, v.trans t⟩
theorem getElem?_set_none (ρ : Env) (i : Nat) (h : i < ρ.length) : (ρ.set i (Option.none : Option (Kd × PyData)))[i]? = some Option.none := by
  rw [List.getElem?_set_self h]
/-- a slot gets data -/
theorem Sl.asg {G H : Hp} {σ : L2.St} {ρ : Env} {fp : List Addr} {i : Nat} {v : V} {d : PyData} (S : Sl K G H σ ρ fp) (hi : i < ρ.length) (r : Rp K G v d) :
    ∃ fp', Sl K G H (σ.set i (some v)) (ρ.set i (some (.val, d))) fp' ∧ Sb fp' fp := by
  obtain ⟨f1, S1, q1⟩ := S.drop i Option.none
  obtain ⟨f2, S2, q2⟩ := S1.put (Ow.val r) i (by simpa using hi) (getElem?_set_none ρ i hi)
  rw [List.set_set, List.set_set] at S2
  exact ⟨f2, S2, f1, q2.symm, q1⟩
theorem Sl.asgO {G H : Hp} {σ : L2.St} {ρ : Env} {fp f : List Addr} {i : Nat} {k : Kd} {v : V} {d : PyData} (S : Sl K G H σ ρ fp) (hi : i < ρ.length) (r : Ow K G H k v d f) :
    ∃ fp' fq, Sl K G H (σ.set i (some v)) (ρ.set i (some (k, d))) fp' ∧ fp'.Perm (f ++ fq) ∧ List.Sublist fq fp := by
  obtain ⟨f1, S1, q1⟩ := S.drop i Option.none
  obtain ⟨f2, S2, q2⟩ := S1.put r i (by simpa using hi) (getElem?_set_none ρ i hi)
  rw [List.set_set, List.set_set] at S2
  exact ⟨f2, f1, S2, q2, q1⟩

/-! ### targets -/
def SemG (K : PySem.W.Frag) (g : TG) (js : List Nat) (a : PyData → Env → Option Env) : Prop := ∀ (G H : Hp) (σ : L2.St) (ρ : Env) (fp : List Addr) (v : V) (d : PyData) (ρ' : Env) (Q : L2.St → Hp → Prop), Same G H → Sl K G H σ ρ fp → Rp K G v d → a d ρ = some ρ' →
  (∀ σ' fp', Sl K G H σ' ρ' fp' → Sb fp' fp → (∀ j, j ∉ js → σ'[j]? = σ[j]?) → σ'.length = σ.length → Q σ' H) → g v σ H Q
def SemGs (K : PySem.W.Frag) (g : TGs) (js : List Nat) (a : List PyData → Env → Option Env) : Prop := ∀ (G H : Hp) (σ : L2.St) (ρ : Env) (fp : List Addr) (vs : List V) (ds : List PyData) (ρ' : Env) (Q : L2.St → Hp → Prop), Same G H → Sl K G H σ ρ fp → RpA K G vs ds → a ds ρ = some ρ' →
  (∀ σ' fp', Sl K G H σ' ρ' fp' → Sb fp' fp → (∀ j, j ∉ js → σ'[j]? = σ[j]?) → σ'.length = σ.length → Q σ' H) → g vs σ H Q
def aName (i : Nat) : PyData → Env → Option Env := fun d ρ => if i < ρ.length then some (ρ.set i (some (.val, d))) else Option.none
theorem semg_name (i : Nat) : SemG K (gName i) [i] (aName i) := by
  intro G H σ ρ fp v d ρ' Q s S r e q
  unfold aName at e
  split at e
  · rename_i hi
    cases e
    obtain ⟨fp', S', b⟩ := S.asg hi r
    exact q _ fp' S' b (fun j hj => List.getElem?_set_ne (fun z => hj (by simp [z]))) (by simp)
  · cases e
def asNil : List PyData → Env → Option Env
  | [], ρ => some ρ
  | _ :: _, _ => Option.none
def asCons (a : PyData → Env → Option Env) (r : List PyData → Env → Option Env) : List PyData → Env → Option Env
  | d :: ds, ρ => (a d ρ).bind fun ρ1 => r ds ρ1
  | [], _ => Option.none
theorem semgs_nil : SemGs K gNil [] asNil := by
  intro G H σ ρ fp vs ds ρ' Q s S r e q
  cases r with
  | nil => cases e; exact ⟨rfl, q σ fp S (Sb.refl _) (fun _ _ => rfl) rfl⟩
  | cons _ _ => cases e
theorem semgs_cons {t : TG} {u : TGs} {js ks : List Nat} {a : PyData → Env → Option Env} {r : List PyData → Env → Option Env} (h : SemG K t js a) (h2 : SemGs K u ks r) : SemGs K (gCons t u) (js ++ ks) (asCons a r) := by
  intro G H σ ρ fp vs ds ρ' Q s S rr e q
  cases rr with
  | nil => cases e
  | cons r1 r2 =>
    unfold asCons at e
    obtain ⟨ρ1, e1, e⟩ := Option.bind_eq_some_iff.mp e
    refine ⟨_, _, rfl, h G H σ ρ fp _ _ _ _ s S r1 e1 fun σ1 f1 S1 b1 k1 l1 => ?_⟩
    refine h2 G H σ1 ρ1 f1 _ _ _ _ s S1 r2 e fun σ2 f2 S2 b2 k2 l2 => ?_
    exact q σ2 f2 S2 (b2.trans b1) (fun j hj => (k2 j fun m => hj (List.mem_append_right _ m)).trans (k1 j fun m => hj (List.mem_append_left _ m))) (l2.trans l1)
def aTup (n : Nat) (r : List PyData → Env → Option Env) : PyData → Env → Option Env
  | .tuple ds, ρ => if ds.length = n then r ds ρ else Option.none
  | _, _ => Option.none
theorem semg_tup {n : Nat} {t : TGs} {js : List Nat} {r : List PyData → Env → Option Env} (h : SemGs K t js r) : SemG K (gTup K n t) js (aTup n r) := by
  intro G H σ ρ fp v d ρ' Q s S rr e q
  unfold aTup at e
  split at e
  · split at e
    · rename_i hl
      cases rr with
      | tup h1 r1 => exact ⟨_, _, rfl, .inl (.inl (s _ _ h1)), by rw [r1.length]; exact hl, h G H σ ρ fp _ _ _ _ s S r1 e q⟩
    · cases e
  · cases e
def aLst (n : Nat) (r : List PyData → Env → Option Env) : PyData → Env → Option Env
  | .list ds, ρ => if ds.length = n then r ds ρ else Option.none
  | _, _ => Option.none
theorem semg_lst {n : Nat} {t : TGs} {js : List Nat} {r : List PyData → Env → Option Env} (h : SemGs K t js r) : SemG K (gUnl K n t) js (aLst n r) := by
  intro G H σ ρ fp v d ρ' Q s S rr e q
  unfold aLst at e
  split at e
  · split at e
    · rename_i hl
      cases rr with
      | lst h1 r1 => exact ⟨_, _, rfl, .inl (.inl (s _ _ h1)), by rw [r1.length]; exact hl, h G H σ ρ fp _ _ _ _ s S r1 e q⟩
    · cases e
  · cases e

/-! ### what is walked -/
/-- J gives the items ds, while G (and, unless st, H) stands -/
def ItOk (K : PySem.W.Frag) (st : Bool) (J : It) (G H : Hp) (ds : List PyData) : Prop := ∀ (G1 H1 : Hp) (i : Nat), Same G G1 → (st = false → Same H H1) → Same G1 H1 →
  (∀ d, ds[i]? = some d → J.go i H1 ∧ ∀ x H2, J.yld i H1 x H2 → ∃ G2, Ext G1 H1 G2 H2 ∧ Rp K G2 x d) ∧ (ds.length ≤ i → J.stop i H1)
def SemI (K : PySem.W.Frag) (st : Bool) (wi : TI) (f : Env → Option (List PyData)) : Prop := ∀ (G H : Hp) (σ : L2.St) (ρ : Env) (fp : List Addr) (ds : List PyData) (R : It → Hp → Prop), Same G H → Sl K G H σ ρ fp → f ρ = some ds →
  (∀ J G' H', Ext G H G' H' → ItOk K st J G' H' ds → R J H') → wi σ H R
theorem ItOk.weak {st : Bool} {J : It} {G H : Hp} {ds : List PyData} (h : ItOk K true J G H ds) : ItOk K st J G H ds := fun G1 H1 i a _ c => h G1 H1 i a (fun z => by cases z) c
theorem SemI.weak {st : Bool} {wi : TI} {f : Env → Option (List PyData)} (h : SemI K true wi f) : SemI K st wi f := fun G H σ ρ fp ds R s S e q =>
  h G H σ ρ fp ds R s S e fun J G' H' X o => q J G' H' X o.weak
def asL : PyData → Option (List PyData)
  | .list xs => some xs
  | _ => Option.none
def asT : PyData → Option (List PyData)
  | .tuple xs => some xs
  | _ => Option.none
def asS : PyData → Option (List PyData)
  | .list xs => some xs
  | .tuple xs => some xs
  | _ => Option.none
def iE (g : PyData → Option (List PyData)) (f : Ev) : Env → Option (List PyData) := fun ρ => (f ρ).bind g
theorem itl_ok {st : Bool} {G H : Hp} {a : Addr} {vs : List V} {ds : List PyData} (h : ∀ G1 H1 : Hp, Same G G1 → (st = false → Same H H1) → Same G1 H1 → H1 a = some (.lst vs)) (r : RpA K G vs ds) : ItOk K st (Itl K a) G H ds := by
  intro G1 H1 i s1 s2 s3
  have e1 := h G1 H1 s1 s2 s3
  have hq : SqL K H1 a vs := .inl (.inl e1)
  refine ⟨fun d hd => ?_, fun hl => ⟨vs, hq, by rw [r.length]; exact hl⟩⟩
  obtain ⟨v, hv, rv⟩ := r.get hd
  refine ⟨⟨vs, v, hq, hv⟩, fun x H2 y => ?_⟩
  obtain ⟨rfl, y⟩ := y
  have := y vs hq
  rw [hv] at this
  cases this
  exact ⟨G1, Ext.refl s3, rv.mono s1⟩
theorem itt_ok {st : Bool} {G H : Hp} {a : Addr} {vs : List V} {ds : List PyData} (h : ∀ G1 H1 : Hp, Same G G1 → (st = false → Same H H1) → Same G1 H1 → H1 a = some (.tup vs)) (r : RpA K G vs ds) : ItOk K st (Itt K a) G H ds := by
  intro G1 H1 i s1 s2 s3
  have e1 := h G1 H1 s1 s2 s3
  have hq : SqT K H1 a vs := .inl (.inl e1)
  refine ⟨fun d hd => ?_, fun hl => ⟨vs, hq, by rw [r.length]; exact hl⟩⟩
  obtain ⟨v, hv, rv⟩ := r.get hd
  refine ⟨⟨vs, v, hq, hv⟩, fun x H2 y => ?_⟩
  obtain ⟨rfl, y⟩ := y
  have := y vs hq
  rw [hv] at this
  cases this
  exact ⟨G1, Ext.refl s3, rv.mono s1⟩
theorem semi_list {t : TE} {f : Ev} (h : SemE K t .val f) : SemI K true (iList K t) (iE asL f) := by
  intro G H σ ρ fp ds R s S e q
  unfold iE at e
  obtain ⟨x, e1, e⟩ := Option.bind_eq_some_iff.mp e
  unfold asL at e
  split at e
  · cases e
    refine h G H σ ρ fp _ _ s S e1 fun v G1 H1 X1 b1 => ?_
    cases b1 with
    | rp b1 =>
    cases b1 with
    | lst h1 r1 => exact ⟨_, rfl, ⟨_, .inl (.inl (X1.s _ _ h1))⟩, q _ G1 H1 X1 (itl_ok (fun G2 H2 z1 z2 z3 => z3 _ _ (z1 _ _ h1)) r1)⟩
  · cases e
theorem semi_listO {t : TE} {f : Ev} (h : SemE K t (.lst .val) f) : SemI K false (iList K t) (iE asL f) := by
  intro G H σ ρ fp ds R s S e q
  unfold iE at e
  obtain ⟨x, e1, e⟩ := Option.bind_eq_some_iff.mp e
  unfold asL at e
  split at e
  · cases e
    refine h G H σ ρ fp _ _ s S e1 fun v G1 H1 X1 b1 => ?_
    obtain ⟨a, vs, rfl, h1, r1⟩ := b1.list X1.s
    exact ⟨_, rfl, ⟨_, .inl (.inl h1)⟩, q _ G1 H1 X1 (itl_ok (fun G2 H2 z1 z2 z3 => z2 rfl _ _ h1) (BrA.val r1))⟩
  · cases e
theorem semi_tup {t : TE} {f : Ev} (h : SemE K t .val f) : SemI K true (iTup K t) (iE asT f) := by
  intro G H σ ρ fp ds R s S e q
  unfold iE at e
  obtain ⟨x, e1, e⟩ := Option.bind_eq_some_iff.mp e
  unfold asT at e
  split at e
  · cases e
    refine h G H σ ρ fp _ _ s S e1 fun v G1 H1 X1 b1 => ?_
    cases b1 with
    | rp b1 =>
    cases b1 with
    | tup h1 r1 => exact ⟨_, rfl, ⟨_, .inl (.inl (X1.s _ _ h1))⟩, q _ G1 H1 X1 (itt_ok (fun G2 H2 z1 z2 z3 => z3 _ _ (z1 _ _ h1)) r1)⟩
  · cases e
/-- a list or a tuple, as it comes -/
def iSeq (K : PySem.W.Frag) (t : TE) : TI := fun σ H R => iList K t σ H R ∨ iTup K t σ H R
theorem pi_seq {X : Cx} {tg l : Expr} {t : TE} (h : PE X l t) : PI X tg l (iSeq X.K t) :=
  ⟨fun pins s σ H R I q => q.elim (fun q => (pi_list h).run pins s σ H R I q) fun q => (pi_tup h).run pins s σ H R I q⟩
theorem semi_seq {t : TE} {f : Ev} (h : SemE K t .val f) : SemI K true (iSeq K t) (iE asS f) := by
  intro G H σ ρ fp ds R s S e q
  unfold iE at e
  obtain ⟨x, e1, e2⟩ := Option.bind_eq_some_iff.mp e
  unfold asS at e2
  split at e2
  · cases e2
    exact .inl (semi_list h G H σ ρ fp _ R s S (by unfold iE; rw [e1]; rfl) q)
  · cases e2
    exact .inr (semi_tup h G H σ ρ fp _ R s S (by unfold iE; rw [e1]; rfl) q)
  · cases e2
def rangeD (lo : Int) : Nat → List PyData
  | 0 => []
  | n + 1 => .int lo :: rangeD (lo + 1) n
theorem rangeD_len (n : Nat) : ∀ lo : Int, (rangeD lo n).length = n := by
  induction n with
  | zero => intro lo; rfl
  | succ n ih => intro lo; simp [rangeD, ih]
theorem rangeD_get (n : Nat) : ∀ (lo : Int) (i : Nat) (d : PyData), (rangeD lo n)[i]? = some d → i < n ∧ d = .int (lo + i) := by
  induction n with
  | zero => intro lo i d h; simp [rangeD] at h
  | succ n ih =>
    intro lo i d h
    cases i with
    | zero => simp [rangeD] at h; subst h; simp
    | succ i =>
      simp only [rangeD, List.getElem?_cons_succ] at h
      obtain ⟨a, b⟩ := ih _ _ _ h
      refine ⟨by omega, ?_⟩
      rw [b]
      congr 1
      push_cast
      omega
theorem itr_ok {st : Bool} {lo : Int} {n : Nat} {G H : Hp} : ItOk K st (Itr lo n) G H (rangeD lo n) := by
  intro G1 H1 i s1 s2 s3
  refine ⟨fun d hd => ?_, fun hl => by rw [rangeD_len] at hl; exact hl⟩
  obtain ⟨a, b⟩ := rangeD_get _ _ _ _ hd
  subst b
  refine ⟨a, fun x H2 y => ?_⟩
  obtain ⟨rfl, rfl⟩ := y
  exact ⟨G1, Ext.refl s3, .int _⟩
def rgB (i : Int) : Bool := decide (i.natAbs < 4611686018427387904)
theorem rgB_ok {i : Int} (h : rgB i = true) : -(2 ^ 62) ≤ i ∧ i < 2 ^ 62 := by
  unfold rgB at h
  rw [decide_eq_true_eq] at h
  omega
def iR1 : List PyData → Option (List PyData)
  | [.int j] => if rgB j = true then some (rangeD 0 j.toNat) else Option.none
  | _ => Option.none
def iR2 : List PyData → Option (List PyData)
  | [.int i, .int j] => if rgB i = true ∧ rgB j = true then some (rangeD i (j - i).toNat) else Option.none
  | _ => Option.none
def iA (op : List PyData → Option (List PyData)) (g : Env → Option (List PyData)) : Env → Option (List PyData) := fun ρ => (g ρ).bind op
theorem semi_range1 {t : TA} {g : Env → Option (List PyData)} (h : SemA K t .any g) : SemI K true (iRng1 t) (iA iR1 g) := by
  intro G H σ ρ fp ds R s S e q
  unfold iA at e
  obtain ⟨xs, e1, e⟩ := Option.bind_eq_some_iff.mp e
  unfold iR1 at e
  split at e
  · split at e
    · rename_i hb
      cases e
      refine h G H σ ρ fp _ _ s S e1 fun vs G1 H1 X1 B => ?_
      obtain ⟨v, rfl, b⟩ := B.one
      cases b.int
      exact ⟨_, rfl, (rgB_ok hb).1, (rgB_ok hb).2, q _ G1 H1 X1 itr_ok⟩
    · cases e
  · cases e
theorem semi_range2 {t : TA} {g : Env → Option (List PyData)} (h : SemA K t .any g) : SemI K true (iRng2 t) (iA iR2 g) := by
  intro G H σ ρ fp ds R s S e q
  unfold iA at e
  obtain ⟨xs, e1, e⟩ := Option.bind_eq_some_iff.mp e
  unfold iR2 at e
  split at e
  · split at e
    · rename_i hb
      cases e
      refine h G H σ ρ fp _ _ s S e1 fun vs G1 H1 X1 B => ?_
      obtain ⟨v, w, rfl, b, b'⟩ := B.two
      cases b.int; cases b'.int
      exact ⟨_, _, rfl, ⟨(rgB_ok hb.1).1, (rgB_ok hb.1).2, (rgB_ok hb.2).1, (rgB_ok hb.2).2⟩, q _ G1 H1 X1 itr_ok⟩
    · cases e
  · cases e
/-- range(i, j, -1) -/
def downD (hi : Int) : Nat → List PyData
  | 0 => []
  | n + 1 => .int hi :: downD (hi - 1) n
theorem downD_len (n : Nat) : ∀ lo : Int, (downD lo n).length = n := by
  induction n with
  | zero => intro lo; rfl
  | succ n ih => intro lo; simp [downD, ih]
theorem downD_get (n : Nat) : ∀ (lo : Int) (i : Nat) (d : PyData), (downD lo n)[i]? = some d → i < n ∧ d = .int (lo - i) := by
  induction n with
  | zero => intro lo i d h; simp [downD] at h
  | succ n ih =>
    intro lo i d h
    cases i with
    | zero => simp [downD] at h; subst h; simp
    | succ i =>
      simp only [downD, List.getElem?_cons_succ] at h
      obtain ⟨a, b⟩ := ih _ _ _ h
      refine ⟨by omega, ?_⟩
      rw [b]
      congr 1
      push_cast
      omega
def iR3 : List PyData → Option (List PyData)
  | [.int i, .int j, .int c] => if c = -1 ∧ rgB i = true ∧ rgB j = true then some (downD i (i - j).toNat) else Option.none
  | _ => Option.none
theorem semi_range3 {t : TA} {g : Env → Option (List PyData)} (h : SemA K t .any g) : SemI K true (iRng3 t) (iA iR3 g) := by
  intro G H σ ρ fp ds R s S e q
  unfold iA at e
  obtain ⟨xs, e1, e⟩ := Option.bind_eq_some_iff.mp e
  unfold iR3 at e
  split at e
  · split at e
    · rename_i i j c hb
      cases e
      refine h G H σ ρ fp _ _ s S e1 fun vs G1 H1 X1 B => ?_
      cases B with
      | cons b0 B =>
      obtain ⟨v, w, rfl, b, b'⟩ := B.two
      cases b0.int; cases b.int; cases b'.int
      obtain ⟨rfl, h1, h2⟩ := hb
      refine ⟨_, _, _, _, rfl, RgC.neg (rgB_ok h1).1 (rgB_ok h1).2 (rgB_ok h2).1 (rgB_ok h2).2, q _ G1 H1 X1 ?_⟩
      intro G2 H2 i s1 s2 s3
      refine ⟨fun d hd => ?_, fun hl => by rw [downD_len] at hl; exact hl⟩
      obtain ⟨a, b⟩ := downD_get _ _ _ _ hd
      subst b
      refine ⟨a, fun x H2 y => ?_⟩
      obtain ⟨rfl, rfl⟩ := y
      refine ⟨G2, Ext.refl s3, ?_⟩
      rw [Int.mul_neg_one]
      exact .int _
    · cases e
  · cases e
def enumD (i : Nat) : List PyData → List PyData
  | [] => []
  | x :: r => .tuple [.int i, x] :: enumD (i + 1) r
theorem enumD_len : ∀ (xs : List PyData) (i : Nat), (enumD i xs).length = xs.length
  | [], _ => rfl
  | _ :: r, i => by simp [enumD, enumD_len r]
theorem enumD_get : ∀ (xs : List PyData) (k i : Nat) (d : PyData), (enumD k xs)[i]? = some d → ∃ x, xs[i]? = some x ∧ d = .tuple [.int ((k + i : Nat) : Int), x]
  | [], k, i, d, h => by simp [enumD] at h
  | y :: r, k, 0, d, h => by simp [enumD] at h; subst h; exact ⟨y, rfl, rfl⟩
  | y :: r, k, i + 1, d, h => by
    simp only [enumD, List.getElem?_cons_succ] at h
    obtain ⟨x, a, b⟩ := enumD_get r (k + 1) i d h
    exact ⟨x, by simpa using a, by rw [b, show k + 1 + i = k + (i + 1) by omega]⟩
def iEn : List PyData → Option (List PyData)
  | [.list xs] => some (enumD 0 xs)
  | _ => Option.none
theorem ite_ok {st : Bool} {G H : Hp} {a : Addr} {vs : List V} {xs : List PyData} (h : ∀ G1 H1 : Hp, Same G G1 → (st = false → Same H H1) → Same G1 H1 → H1 a = some (.lst vs)) (r : RpA K G vs xs) : ItOk K st (Ite K a) G H (enumD 0 xs) := by
  intro G1 H1 i s1 s2 s3
  have hq : SqL K H1 a vs := .inl (.inl (h G1 H1 s1 s2 s3))
  refine ⟨fun d hd => ?_, fun hl => ⟨vs, hq, by rw [r.length, ← enumD_len xs 0]; exact hl⟩⟩
  obtain ⟨x, hx, rfl⟩ := enumD_get _ _ _ _ hd
  obtain ⟨v, hv, rv⟩ := r.get hx
  refine ⟨⟨vs, v, hq, hv⟩, fun y H2 hy => ?_⟩
  obtain ⟨T, z, rfl, nT, rfl, f⟩ := hy
  have := f vs hq
  rw [hv] at this
  cases this
  refine ⟨_, Ext.new s3 nT, ?_⟩
  rw [Nat.zero_add]
  exact .tup upd_same (.cons (.int _) (.cons ((rv.mono s1).mono (same_new (s3.free nT))) .nil))
theorem semi_enum {t : TA} {g : Env → Option (List PyData)} (h : SemA K t .val g) : SemI K true (iEnum K t) (iA iEn g) := by
  intro G H σ ρ fp ds R s S e q
  unfold iA at e
  obtain ⟨xs, e1, e⟩ := Option.bind_eq_some_iff.mp e
  unfold iEn at e
  split at e
  · cases e
    refine h G H σ ρ fp _ _ s S e1 fun vs G1 H1 X1 B => ?_
    obtain ⟨v, rfl, b⟩ := B.one
    cases b with
    | rp b =>
    cases b with
    | lst h1 r1 => exact ⟨_, _, rfl, .inl (.inl (X1.s _ _ h1)), q _ G1 H1 X1 (ite_ok (fun G2 H2 z1 z2 z3 => z3 _ _ (z1 _ _ h1)) r1)⟩
  · cases e
theorem semi_enumO {t : TA} {g : Env → Option (List PyData)} (h : SemA K t (.lst .val) g) : SemI K false (iEnum K t) (iA iEn g) := by
  intro G H σ ρ fp ds R s S e q
  unfold iA at e
  obtain ⟨xs, e1, e⟩ := Option.bind_eq_some_iff.mp e
  unfold iEn at e
  split at e
  · cases e
    refine h G H σ ρ fp _ _ s S e1 fun vs G1 H1 X1 B => ?_
    obtain ⟨v, rfl, b⟩ := B.one
    obtain ⟨a, us, rfl, h1, r1⟩ := b.list X1.s
    exact ⟨_, _, rfl, .inl (.inl h1), q _ G1 H1 X1 (ite_ok (fun G2 H2 z1 z2 z3 => z2 rfl _ _ h1) (BrA.val r1))⟩
  · cases e
def zipD : List PyData → List PyData → List PyData
  | x :: xs, y :: ys => .tuple [x, y] :: zipD xs ys
  | _, _ => []
theorem zipD_get : ∀ (xs ys : List PyData) (i : Nat) (d : PyData), (zipD xs ys)[i]? = some d → ∃ x y, xs[i]? = some x ∧ ys[i]? = some y ∧ d = .tuple [x, y]
  | [], ys, i, d, h => by simp [zipD] at h
  | _ :: _, [], i, d, h => by simp [zipD] at h
  | x :: xs, y :: ys, 0, d, h => by simp [zipD] at h; subst h; exact ⟨x, y, rfl, rfl, rfl⟩
  | x :: xs, y :: ys, i + 1, d, h => by
    simp only [zipD, List.getElem?_cons_succ] at h
    obtain ⟨a, b, c⟩ := zipD_get xs ys i d h
    exact ⟨a, b, by simpa using c⟩
theorem zipD_end : ∀ (xs ys : List PyData) (i : Nat), (zipD xs ys).length ≤ i → xs.length ≤ i ∨ ys.length ≤ i
  | [], ys, i, h => .inl (by simp)
  | _ :: _, [], i, h => .inr (by simp)
  | x :: xs, y :: ys, 0, h => by simp [zipD] at h
  | x :: xs, y :: ys, i + 1, h => by
    simp only [zipD, List.length_cons, Nat.add_le_add_iff_right] at h
    rcases zipD_end xs ys i h with q | q
    · exact .inl (by simpa using q)
    · exact .inr (by simpa using q)
def iZp : List PyData → Option (List PyData)
  | [.list xs, .list ys] => some (zipD xs ys)
  | _ => Option.none
theorem itz_ok {st : Bool} {G H : Hp} {a b : Addr} {vs us : List V} {xs ys : List PyData} (h : ∀ G1 H1 : Hp, Same G G1 → (st = false → Same H H1) → Same G1 H1 → H1 a = some (.lst vs) ∧ H1 b = some (.lst us)) (r : RpA K G vs xs) (r' : RpA K G us ys) : ItOk K st (Itz K a b) G H (zipD xs ys) := by
  intro G1 H1 i s1 s2 s3
  have hq : SqL K H1 a vs := .inl (.inl (h G1 H1 s1 s2 s3).1)
  have hq' : SqL K H1 b us := .inl (.inl (h G1 H1 s1 s2 s3).2)
  refine ⟨fun d hd => ?_, fun hl => ⟨vs, us, hq, hq', by rw [r.length, r'.length]; exact zipD_end _ _ _ hl⟩⟩
  obtain ⟨x, y, hx, hy, rfl⟩ := zipD_get _ _ _ _ hd
  obtain ⟨v, hv, rv⟩ := r.get hx
  obtain ⟨u, hu, ru⟩ := r'.get hy
  refine ⟨⟨vs, us, v, u, hq, hq', hv, hu⟩, fun z H2 hz => ?_⟩
  obtain ⟨T, z1, z2, rfl, nT, rfl, f1, f2⟩ := hz
  have := f1 vs hq
  rw [hv] at this
  cases this
  have := f2 us hq'
  rw [hu] at this
  cases this
  exact ⟨_, Ext.new s3 nT, .tup upd_same (.cons ((rv.mono s1).mono (same_new (s3.free nT))) (.cons ((ru.mono s1).mono (same_new (s3.free nT))) .nil))⟩
theorem semi_zip {t : TA} {g : Env → Option (List PyData)} (h : SemA K t .val g) : SemI K true (iZip K t) (iA iZp g) := by
  intro G H σ ρ fp ds R s S e q
  unfold iA at e
  obtain ⟨xs, e1, e⟩ := Option.bind_eq_some_iff.mp e
  unfold iZp at e
  split at e
  · cases e
    refine h G H σ ρ fp _ _ s S e1 fun vs G1 H1 X1 B => ?_
    obtain ⟨v, w, rfl, b, b'⟩ := B.two
    cases b with
    | rp b =>
    cases b' with
    | rp b' =>
    cases b with
    | lst h1 r1 =>
    cases b' with
    | lst h2 r2 => exact ⟨_, _, _, _, rfl, .inl (.inl (X1.s _ _ h1)), .inl (.inl (X1.s _ _ h2)), q _ G1 H1 X1 (itz_ok (fun G2 H2 z1 z2 z3 => ⟨z3 _ _ (z1 _ _ h1), z3 _ _ (z1 _ _ h2)⟩) r1 r2)⟩
  · cases e
theorem semi_zipO {t : TA} {g : Env → Option (List PyData)} (h : SemA K t (.lst .val) g) : SemI K false (iZip K t) (iA iZp g) := by
  intro G H σ ρ fp ds R s S e q
  unfold iA at e
  obtain ⟨xs, e1, e⟩ := Option.bind_eq_some_iff.mp e
  unfold iZp at e
  split at e
  · cases e
    refine h G H σ ρ fp _ _ s S e1 fun vs G1 H1 X1 B => ?_
    obtain ⟨v, w, rfl, b, b'⟩ := B.two
    obtain ⟨a, us, rfl, h1, r1⟩ := b.list X1.s
    obtain ⟨a', us', rfl, h2, r2⟩ := b'.list X1.s
    exact ⟨_, _, _, _, rfl, .inl (.inl h1), .inl (.inl h2), q _ G1 H1 X1 (itz_ok (fun G2 H2 z1 z2 z3 => ⟨z2 rfl _ _ h1, z2 rfl _ _ h2⟩) (BrA.val r1) (BrA.val r2))⟩
  · cases e

/-! ### list comprehensions -/
def wipeE (ρ : Env) : List Nat → Env
  | [] => ρ
  | v :: vs => (wipeE ρ vs).set v Option.none
theorem Sl.wipe {G H : Hp} {σ : L2.St} {ρ : Env} {fp : List Addr} (S : Sl K G H σ ρ fp) : ∀ vs : List Nat, ∃ fp', Sl K G H (L2.wipe σ vs) (wipeE ρ vs) fp' ∧ List.Sublist fp' fp
  | [] => ⟨fp, S, List.Sublist.refl _⟩
  | v :: vs => by
    obtain ⟨f1, S1, q1⟩ := S.wipe vs
    obtain ⟨f2, S2, q2⟩ := S1.drop v Option.none
    exact ⟨f2, S2, q2.trans q1⟩
theorem wipe_in {σ : L2.St} {i : Nat} : ∀ {vs : List Nat}, i ∈ vs → i < σ.length → (L2.wipe σ vs)[i]? = some Option.none
  | [], h, _ => by cases h
  | v :: vs, h, l => by
    unfold L2.wipe
    by_cases e : v = i
    · subst e
      rw [List.getElem?_set_self (by rw [wipe_length]; exact l)]
    · rw [List.getElem?_set_ne e]
      exact wipe_in ((List.mem_cons.mp h).resolve_left fun z => e z.symm) l
theorem wipe_agree {σ σ2 : L2.St} {vs js : List Nat} (hj : ∀ j ∈ js, j ∈ vs) (h : ∀ j, j ∉ js → σ2[j]? = (L2.wipe σ vs)[j]?) (l : σ2.length = (L2.wipe σ vs).length) : L2.wipe σ2 vs = L2.wipe σ vs := by
  have l2 : σ2.length = σ.length := l.trans (wipe_length σ vs)
  refine List.ext_getElem? fun j => ?_
  by_cases m : j ∈ vs
  · by_cases b : j < σ.length
    · rw [wipe_in m b, wipe_in m (by rw [l2]; exact b)]
    · rw [List.getElem?_eq_none (by rw [wipe_length]; omega), List.getElem?_eq_none (by rw [wipe_length]; omega)]
  · rw [wipe_out m]
    exact h j fun z => m (hj j z)
def lcM (a : PyData → Env → Option Env) (t : Env → Option Bool) (e : Ev) (ρw : Env) : List PyData → Option (List PyData)
  | [] => some []
  | d :: ds => (a d ρw).bind fun ρ2 => (t ρ2).bind fun b => if b = true then (e ρ2).bind fun y => (lcM a t e ρw ds).bind fun r => some (y :: r) else lcM a t e ρw ds
def eLc (i : Env → Option (List PyData)) (a : PyData → Env → Option Env) (t : Env → Option Bool) (e : Ev) (vs : List Nat) : Ev := fun ρ =>
  (i ρ).bind fun ds => if ds.length ≤ most then (lcM a t e (wipeE ρ vs) ds).bind fun r => some (.list r) else Option.none
theorem sem_lc {wi : TI} {g : TG} {tt : TT} {te : TE} {vs js : List Nat} {fi : Env → Option (List PyData)} {a : PyData → Env → Option Env} {ft : Env → Option Bool} {fe : Ev} (hi : SemI K false wi fi) (hg : SemG K g js a) (hj : ∀ j ∈ js, j ∈ vs) (ht : SemT K tt ft) (he : SemE K te .val fe) :
    SemO K (tLc wi g tt te vs) (.lst .val) (eLc fi a ft fe vs) := by
  intro G H σ ρ fp d Q s S e q
  unfold eLc at e
  obtain ⟨ds, e1, e⟩ := Option.bind_eq_some_iff.mp e
  split at e
  · rename_i hlen
    obtain ⟨rs, e2, e⟩ := Option.bind_eq_some_iff.mp e
    cases e
    refine hi G H σ ρ fp ds _ s S e1 fun J G1 H1 X1 ok => ?_
    intro D nD
    obtain ⟨fw, Sw, _⟩ := (S.mono X1.g X1.h).wipe vs
    refine ⟨fun i m Hi => m = ds.length - i ∧ i ≤ ds.length ∧ ∃ (Gi : Hp) (acc : List V) (ra rest : List PyData), Ext G1 H1 Gi Hi ∧ Hi D = some (.lst acc) ∧ Gi D = Option.none ∧ RpA K Gi acc ra ∧ acc.length ≤ i ∧
      lcM a ft fe (wipeE ρ vs) (ds.drop i) = some rest ∧ rs = ra ++ rest, ⟨ds.length, by simp, Nat.zero_le _, G1, [], [], rs, Ext.own X1.s nD, upd_same, X1.s.free nD, .nil, Nat.le_refl _, by simpa using e2, rfl⟩, ?_⟩
    rintro i m Hi ⟨rfl, hi, Gi, acc, ra, rest, Xi, hD, gD, rA, hacc, hl, hr⟩
    have okI := ok Gi Hi i Xi.g (fun _ => Xi.h) Xi.s
    by_cases hlt : i < ds.length
    · obtain ⟨dd, hd⟩ : ∃ dd, ds[i]? = some dd := ⟨ds[i], by simp [hlt]⟩
      have hdrop : ds.drop i = dd :: ds.drop (i + 1) := by
        rw [List.drop_eq_getElem_cons hlt]
        rw [List.getElem?_eq_getElem hlt] at hd
        cases hd; rfl
      rw [hdrop] at hl
      unfold lcM at hl
      obtain ⟨ρ2, a1, hl⟩ := Option.bind_eq_some_iff.mp hl
      obtain ⟨b, t1, hl⟩ := Option.bind_eq_some_iff.mp hl
      obtain ⟨go, yl⟩ := okI.1 dd hd
      refine .inr ⟨go, fun H' => ∃ (G' : Hp) (acc' : List V) (ra' rest' : List PyData), Ext G1 H1 G' H' ∧ H' D = some (.lst acc') ∧ G' D = Option.none ∧ RpA K G' acc' ra' ∧ acc'.length ≤ i + 1 ∧
        lcM a ft fe (wipeE ρ vs) (ds.drop (i + 1)) = some rest' ∧ rs = ra' ++ rest', ?_, ?_⟩
      · rintro H' ⟨G', acc', ra', rest', h1, h2, h3, h4, h5, h6, h7⟩
        exact ⟨ds.length - (i + 1), by omega, rfl, hlt, G', acc', ra', rest', h1, h2, h3, h4, h5, h6, h7⟩
      · intro x H2 hy
        obtain ⟨G2, X2, r2⟩ := yl x H2 hy
        have XX := Xi.trans X2
        refine hg G2 H2 _ _ fw x dd ρ2 _ X2.s (Sw.mono XX.g XX.h) r2 a1 fun σ2 f2 S2 _ k2 l2 => ?_
        refine ⟨wipe_agree hj k2 l2, ?_⟩
        refine ht G2 H2 σ2 ρ2 f2 b _ X2.s S2 t1 fun G3 H3 X3 => ?_
        cases b with
        | true =>
          rw [if_pos rfl] at hl ⊢
          obtain ⟨y, y1, hl⟩ := Option.bind_eq_some_iff.mp hl
          obtain ⟨r', z1, hl⟩ := Option.bind_eq_some_iff.mp hl
          cases hl
          refine he G3 H3 σ2 ρ2 f2 y _ X3.s (S2.mono X3.g X3.h) y1 fun v G4 H4 X4 b4 => ?_
          have X5 := (X2.trans X3).trans X4
          have hD4 : H4 D = some (.lst acc) := X5.h _ _ hD
          have gD4 : G4 D = Option.none := X5.n _ _ gD hD
          have XE := Xi.trans X5
          refine ⟨acc, hD4, by rw [most_eq]; omega, G4, acc ++ [v], ra ++ [y], r', ⟨XE.g, fun c o z => ?_, fun c o z => ?_, XE.n⟩, upd_same, gD4, (rA.mono X5.g).append (.cons b4.val .nil), by simp; omega, z1, ?_⟩
          · rw [upd_ne (fun w => by rw [w, nD] at z; cases z)]
            exact XE.h _ _ z
          · rw [upd_ne (fun w => by rw [w, gD4] at z; cases z)]
            exact XE.s _ _ z
          · rw [hr]; simp
        | false =>
          rw [if_neg Bool.false_ne_true] at hl ⊢
          have X5 := X2.trans X3
          exact ⟨G3, acc, ra, rest, Xi.trans X5, X5.h _ _ hD, X5.n _ _ gD hD, rA.mono X5.g, by omega, hl, hr⟩
    · have ei : i = ds.length := by omega
      subst ei
      rw [List.drop_length] at hl
      unfold lcM at hl
      cases hl
      rw [List.append_nil] at hr
      subst hr
      refine .inl ⟨okI.2 (Nat.le_refl _), q _ Gi Hi [D] (X1.trans Xi) (.lst hD (OwA.of rA)) (fun c m => ?_) (by simp)⟩
      have e : c = D := by simpa using m
      subst e
      exact ⟨gD, X1.h.free nD⟩
  · cases e
/-- two clauses -/
def lcI (a1 : PyData → Env → Option Env) (t1 : Env → Option Bool) (e : Ev) (ρw : Env) : List PyData → Option (List PyData) := lcM a1 t1 e ρw
def lcM2 (a : PyData → Env → Option Env) (t : Env → Option Bool) (i1 : Env → Option (List PyData)) (inner : Env → List PyData → Option (List PyData)) (ρw : Env) : List PyData → Option (List (List PyData))
  | [] => some []
  | d :: ds => (a d ρw).bind fun ρ2 => (t ρ2).bind fun b => if b = true then (i1 ρ2).bind fun es => (inner ρ2 es).bind fun ys => (lcM2 a t i1 inner ρw ds).bind fun r => some (ys :: r) else lcM2 a t i1 inner ρw ds
def eLc2 (i : Env → Option (List PyData)) (a : PyData → Env → Option Env) (t : Env → Option Bool) (i1 : Env → Option (List PyData)) (a1 : PyData → Env → Option Env) (t1 : Env → Option Bool) (e : Ev) (vs vs1 : List Nat) : Ev := fun ρ =>
  (i ρ).bind fun ds => (lcM2 a t i1 (fun ρ2 es => lcM a1 t1 e (wipeE ρ2 vs1) es) (wipeE ρ vs) ds).bind fun rs => if rs.flatten.length ≤ most then some (.list rs.flatten) else Option.none
theorem sem_lc2 {wi wi1 : TI} {g g1 : TG} {tt tt1 : TT} {te : TE} {vs vs1 js js1 : List Nat} {fi fi1 : Env → Option (List PyData)} {a a1 : PyData → Env → Option Env} {ft ft1 : Env → Option Bool} {fe : Ev} (hi : SemI K false wi fi) (hg : SemG K g js a) (hj : ∀ j ∈ js, j ∈ vs) (ht : SemT K tt ft)
    (hi1 : SemI K true wi1 fi1) (hg1 : SemG K g1 js1 a1) (hj1 : ∀ j ∈ js1, j ∈ vs1) (ht1 : SemT K tt1 ft1) (he : SemE K te .val fe) :
    SemO K (tLc2 wi g tt wi1 g1 tt1 te vs vs1) (.lst .val) (eLc2 fi a ft fi1 a1 ft1 fe vs vs1) := by
  intro G H σ ρ fp d Q s S e q
  unfold eLc2 at e
  obtain ⟨ds, e1, e⟩ := Option.bind_eq_some_iff.mp e
  obtain ⟨rs, e2, e⟩ := Option.bind_eq_some_iff.mp e
  split at e
  · rename_i hlen
    cases e
    refine hi G H σ ρ fp ds _ s S e1 fun J G1 H1 X1 ok => ?_
    intro D nD
    obtain ⟨fw, Sw, _⟩ := (S.mono X1.g X1.h).wipe vs
    refine ⟨fun i m Hi => m = ds.length - i ∧ i ≤ ds.length ∧ ∃ (Gi : Hp) (acc : List V) (ra : List PyData) (rest : List (List PyData)), Ext G1 H1 Gi Hi ∧ Hi D = some (.lst acc) ∧ Gi D = Option.none ∧ RpA K Gi acc ra ∧
      lcM2 a ft fi1 (fun ρ2 es => lcM a1 ft1 fe (wipeE ρ2 vs1) es) (wipeE ρ vs) (ds.drop i) = some rest ∧ rs.flatten = ra ++ rest.flatten, ⟨ds.length, by simp, Nat.zero_le _, G1, [], [], rs, Ext.own X1.s nD, upd_same, X1.s.free nD, .nil, by simpa using e2, rfl⟩, ?_⟩
    rintro i m Hi ⟨rfl, hi, Gi, acc, ra, rest, Xi, hD, gD, rA, hl, hr⟩
    have okI := ok Gi Hi i Xi.g (fun _ => Xi.h) Xi.s
    by_cases hlt : i < ds.length
    · obtain ⟨dd, hd⟩ : ∃ dd, ds[i]? = some dd := ⟨ds[i], by simp [hlt]⟩
      have hdrop : ds.drop i = dd :: ds.drop (i + 1) := by
        rw [List.drop_eq_getElem_cons hlt]
        rw [List.getElem?_eq_getElem hlt] at hd
        cases hd; rfl
      rw [hdrop] at hl
      unfold lcM2 at hl
      obtain ⟨ρ2, q1, hl⟩ := Option.bind_eq_some_iff.mp hl
      obtain ⟨b, t1, hl⟩ := Option.bind_eq_some_iff.mp hl
      obtain ⟨go, yl⟩ := okI.1 dd hd
      refine .inr ⟨go, fun H' => ∃ (G' : Hp) (acc' : List V) (ra' : List PyData) (rest' : List (List PyData)), Ext G1 H1 G' H' ∧ H' D = some (.lst acc') ∧ G' D = Option.none ∧ RpA K G' acc' ra' ∧
        lcM2 a ft fi1 (fun ρ2 es => lcM a1 ft1 fe (wipeE ρ2 vs1) es) (wipeE ρ vs) (ds.drop (i + 1)) = some rest' ∧ rs.flatten = ra' ++ rest'.flatten, ?_, ?_⟩
      · rintro H' ⟨G', acc', ra', rest', h1, h2, h3, h4, h6, h7⟩
        exact ⟨ds.length - (i + 1), by omega, rfl, hlt, G', acc', ra', rest', h1, h2, h3, h4, h6, h7⟩
      · intro x H2 hy
        obtain ⟨G2, X2, r2⟩ := yl x H2 hy
        have XX := Xi.trans X2
        refine hg G2 H2 _ _ fw x dd ρ2 _ X2.s (Sw.mono XX.g XX.h) r2 q1 fun σ2 f2 S2 sb2 k2 l2 => ?_
        refine ⟨wipe_agree hj k2 l2, ?_⟩
        refine ht G2 H2 σ2 ρ2 f2 b _ X2.s S2 t1 fun G3 H3 X3 => ?_
        cases b with
        | true =>
          rw [if_pos rfl] at hl ⊢
          obtain ⟨es, w1, hl⟩ := Option.bind_eq_some_iff.mp hl
          obtain ⟨ys, w2, hl⟩ := Option.bind_eq_some_iff.mp hl
          obtain ⟨r', z1, hl⟩ := Option.bind_eq_some_iff.mp hl
          cases hl
          refine hi1 G3 H3 σ2 ρ2 f2 es _ X3.s (S2.mono X3.g X3.h) w1 fun J1 G4 H4 X4 ok1 => ?_
          have X5 := (X2.trans X3).trans X4
          obtain ⟨f3, S3, sb3⟩ := ((S2.mono X3.g X3.h).mono X4.g X4.h).wipe vs1
          have XE := Xi.trans X5
          have hD4 : H4 D = some (.lst acc) := X5.h _ _ hD
          have gD4 : G4 D = Option.none := X5.n _ _ gD hD
          -- the inner loop: its heap differs at D alone
          refine ⟨fun j k Hj => k = es.length - j ∧ j ≤ es.length ∧ ∃ (Gj : Hp) (acc1 : List V) (ra1 rest1 : List PyData), Same G4 Gj ∧ (∀ c o, c ≠ D → H4 c = some o → Hj c = some o) ∧ Ext G1 H1 Gj Hj ∧ Hj D = some (.lst acc1) ∧ Gj D = Option.none ∧ RpA K Gj acc1 ra1 ∧
            lcM a1 ft1 fe (wipeE ρ2 vs1) (es.drop j) = some rest1 ∧ rs.flatten = ra1 ++ rest1 ++ r'.flatten, ⟨es.length, by simp, Nat.zero_le _, G4, acc, ra, ys, Same.refl _, fun _ _ _ z => z, XE, hD4, gD4, rA.mono X5.g, by simpa using w2, by rw [hr]; simp⟩, ?_⟩
          rintro j k Hj ⟨rfl, hj2, Gj, acc1, ra1, rest1, sG, sH, Xj, hDj, gDj, rAj, hlj, hrj⟩
          have okJ := ok1 Gj Hj j sG (fun z => by cases z) Xj.s
          by_cases hlt2 : j < es.length
          · obtain ⟨ee, hee⟩ : ∃ ee, es[j]? = some ee := ⟨es[j], by simp [hlt2]⟩
            have hdrop2 : es.drop j = ee :: es.drop (j + 1) := by
              rw [List.drop_eq_getElem_cons hlt2]
              rw [List.getElem?_eq_getElem hlt2] at hee
              cases hee; rfl
            rw [hdrop2] at hlj
            unfold lcM at hlj
            obtain ⟨ρ3, q3, hlj⟩ := Option.bind_eq_some_iff.mp hlj
            obtain ⟨b3, t3, hlj⟩ := Option.bind_eq_some_iff.mp hlj
            obtain ⟨go2, yl2⟩ := okJ.1 ee hee
            refine .inr ⟨go2, fun H' => ∃ (G' : Hp) (acc1 : List V) (ra1 rest1 : List PyData), Same G4 G' ∧ (∀ c o, c ≠ D → H4 c = some o → H' c = some o) ∧ Ext G1 H1 G' H' ∧ H' D = some (.lst acc1) ∧ G' D = Option.none ∧ RpA K G' acc1 ra1 ∧
              lcM a1 ft1 fe (wipeE ρ2 vs1) (es.drop (j + 1)) = some rest1 ∧ rs.flatten = ra1 ++ rest1 ++ r'.flatten, ?_, ?_⟩
            · rintro H' ⟨G', acc', ra', rest', h1, h2, h3, h4, h5, h6, h7, h8⟩
              exact ⟨es.length - (j + 1), by omega, rfl, hlt2, G', acc', ra', rest', h1, h2, h3, h4, h5, h6, h7, h8⟩
            · intro x5 H5 hy5
              obtain ⟨G5, X6, r5⟩ := yl2 x5 H5 hy5
              have S5 : Sl K G5 H5 (L2.wipe σ2 vs1) (wipeE ρ2 vs1) f3 := by
                refine S3.frame (sG.trans X6.g) fun c mc o z => X6.h _ _ (sH c o (fun w => ?_) z)
                subst w
                obtain ⟨l3, p3, u3⟩ := sb2
                obtain ⟨o', ho⟩ := Sw.there c (u3.subset (p3.mem_iff.mpr (sb3.subset mc)))
                rw [nD] at ho
                cases ho
              refine hg1 G5 H5 _ _ f3 x5 ee ρ3 _ X6.s S5 r5 q3 fun σ3 f4 S6 _ k3 l3 => ?_
              refine ⟨wipe_agree hj1 k3 l3, ?_⟩
              refine ht1 G5 H5 σ3 ρ3 f4 b3 _ X6.s S6 t3 fun G6 H6 X7 => ?_
              cases b3 with
              | true =>
                rw [if_pos rfl] at hlj ⊢
                obtain ⟨y, y1, hlj⟩ := Option.bind_eq_some_iff.mp hlj
                obtain ⟨r3, z3, hlj⟩ := Option.bind_eq_some_iff.mp hlj
                cases hlj
                refine he G6 H6 σ3 ρ3 f4 y _ X7.s (S6.mono X7.g X7.h) y1 fun v G7 H7 X8 b8 => ?_
                have X9 := (X6.trans X7).trans X8
                have hD7 : H7 D = some (.lst acc1) := X9.h _ _ hDj
                have gD7 : G7 D = Option.none := X9.n _ _ gDj hDj
                have XF := Xj.trans X9
                have hlen2 : acc1.length < sizeLine := by
                  rw [most_eq, rAj.length]
                  have z := congrArg List.length hrj
                  simp only [List.length_append, List.length_cons] at z
                  omega
                refine ⟨acc1, hD7, hlen2, G7, acc1 ++ [v], ra1 ++ [y], r3, sG.trans X9.g, fun c o nc z => ?_, ⟨XF.g, fun c o z => ?_, fun c o z => ?_, XF.n⟩, upd_same, gD7, (rAj.mono X9.g).append (.cons b8.val .nil), z3, ?_⟩
                · rw [upd_ne nc]
                  exact X9.h _ _ (sH c o nc z)
                · rw [upd_ne (fun w => by rw [w, nD] at z; cases z)]
                  exact XF.h _ _ z
                · rw [upd_ne (fun w => by rw [w, gD7] at z; cases z)]
                  exact XF.s _ _ z
                · rw [hrj]; simp
              | false =>
                rw [if_neg Bool.false_ne_true] at hlj ⊢
                have X9 := X6.trans X7
                exact ⟨G6, acc1, ra1, rest1, sG.trans X9.g, fun c o nc z => X9.h _ _ (sH c o nc z), Xj.trans X9, X9.h _ _ hDj, X9.n _ _ gDj hDj, rAj.mono X9.g, hlj, hrj⟩
          · have ej : j = es.length := by omega
            subst ej
            rw [List.drop_length] at hlj
            unfold lcM at hlj
            cases hlj
            refine .inl ⟨okJ.2 (Nat.le_refl _), Gj, acc1, ra1, r', Xj, hDj, gDj, rAj, z1, by rw [hrj]; simp⟩
        | false =>
          rw [if_neg Bool.false_ne_true] at hl ⊢
          have X5 := X2.trans X3
          exact ⟨G3, acc, ra, rest, Xi.trans X5, X5.h _ _ hD, X5.n _ _ gD hD, rA.mono X5.g, hl, hr⟩
    · have ei : i = ds.length := by omega
      subst ei
      rw [List.drop_length] at hl
      unfold lcM2 at hl
      cases hl
      rw [List.flatten_nil, List.append_nil] at hr
      rw [hr] at q ⊢
      refine .inl ⟨okI.2 (Nat.le_refl _), q _ Gi Hi [D] (X1.trans Xi) (.lst hD (OwA.of rA)) (fun c m => ?_) (by simp)⟩
      have e : c = D := by simpa using m
      subst e
      exact ⟨gD, X1.h.free nD⟩
  · cases e
end DL

/-! DLe: statements, defs. -/
namespace DL
open PySem PySem.Spec PyProof.Rows L2
variable {K : PySem.W.Frag}

inductive Out where
  | nx (ρ : Env) | rt (d : PyData) | bk (ρ : Env) | ct (ρ : Env)
abbrev Gs := Env → Option Out
def Post (K : PySem.W.Frag) (kr : Kd) (G0 H0 G : Hp) (D : Ends) : Out → Prop
  | .nx ρ' => ∀ σ' G' H' fp', Ext G0 H0 G' H' → Same G G' → Fp H0 G' fp' → Sl K G' H' σ' ρ' fp' → D.nx σ' H'
  | .bk ρ' => ∀ σ' G' H' fp', Ext G0 H0 G' H' → Same G G' → Fp H0 G' fp' → Sl K G' H' σ' ρ' fp' → D.bk σ' H'
  | .ct ρ' => ∀ σ' G' H' fp', Ext G0 H0 G' H' → Same G G' → Fp H0 G' fp' → Sl K G' H' σ' ρ' fp' → D.ct σ' H'
  | .rt d => ∀ v G' H' f', Ext G0 H0 G' H' → Ow K G' H' kr v d f' → Fp H0 G' f' → D.rt v H'
theorem Post.mono {kr : Kd} {G0 H0 G G1 : Hp} {D : Ends} (s : Same G G1) : ∀ {o : Out}, Post K kr G0 H0 G D o → Post K kr G0 H0 G1 D o
  | .nx _, h => fun σ' G' H' fp' a b c d => h σ' G' H' fp' a (s.trans b) c d
  | .bk _, h => fun σ' G' H' fp' a b c d => h σ' G' H' fp' a (s.trans b) c d
  | .ct _, h => fun σ' G' H' fp' a b c d => h σ' G' H' fp' a (s.trans b) c d
  | .rt _, h => h
/-- a statement's reading, by what it does to the slots -/
def SemS (K : PySem.W.Frag) (kr : Kd) (t : TS) (g : Gs) : Prop := ∀ (G0 H0 G H : Hp) (σ : L2.St) (ρ : Env) (fp : List Addr) (o : Out) (D : Ends), Ext G0 H0 G H → Fp H0 G fp → Sl K G H σ ρ fp → g ρ = some o → Post K kr G0 H0 G D o → t D σ H
theorem Fp.ext {H0 G H G1 H1 : Hp} {σ : L2.St} {ρ : Env} {fp : List Addr} (F : Fp H0 G fp) (S : Sl K G H σ ρ fp) (X : Ext G H G1 H1) : Fp H0 G1 fp :=
  ⟨fun a m => ⟨by obtain ⟨o, e⟩ := S.there a m; exact X.n a o (F.o a m).1 e, (F.o a m).2⟩, F.d⟩

def gNext : Gs := fun ρ => some (.nx ρ)
theorem sems_nil {kr : Kd} : SemS K kr tNext gNext := by
  intro G0 H0 G H σ ρ fp o D X F S e p
  cases e
  exact p σ G H fp X (Same.refl _) F S
def gSeq (g u : Gs) : Gs := fun ρ => (g ρ).bind fun o => match o with
  | .nx ρ' => u ρ'
  | o => some o
theorem sems_seq {kr : Kd} {t u : TS} {g w : Gs} (h : SemS K kr t g) (h2 : SemS K kr u w) : SemS K kr (tSeq t u) (gSeq g w) := by
  intro G0 H0 G H σ ρ fp o D X F S e p
  unfold gSeq at e
  obtain ⟨o1, e1, e2⟩ := Option.bind_eq_some_iff.mp e
  refine h G0 H0 G H σ ρ fp o1 _ X F S e1 ?_
  cases o1 with
  | nx ρ' => exact fun σ' G' H' fp' X' s' F' S' => h2 G0 H0 G' H' σ' ρ' fp' o D X' F' S' e2 (p.mono s')
  | rt d => cases e2; exact p
  | bk ρ' => cases e2; exact p
  | ct ρ' => cases e2; exact p
/-- target = value -/
def gAsg (a : PyData → Env → Option Env) (f : Ev) : Gs := fun ρ => (f ρ).bind fun d => (a d ρ).bind fun ρ' => some (.nx ρ')
theorem sems_asg {kr : Kd} {te : TE} {g : TG} {js : List Nat} {f : Ev} {a : PyData → Env → Option Env} (he : SemE K te .val f) (hg : SemG K g js a) : SemS K kr (tAsg te g) (gAsg a f) := by
  intro G0 H0 G H σ ρ fp o D X F S e p
  unfold gAsg at e
  obtain ⟨d, e1, e⟩ := Option.bind_eq_some_iff.mp e
  obtain ⟨ρ', e2, e⟩ := Option.bind_eq_some_iff.mp e
  cases e
  refine he G H σ ρ fp d _ X.s S e1 fun v G1 H1 X1 b1 => ?_
  refine hg G1 H1 σ ρ fp v d ρ' _ X1.s (S.mono X1.g X1.h) b1.val e2 fun σ' fp' S' sb _ _ => ?_
  exact p σ' G1 H1 fp' (X.trans X1) X1.g ((F.ext S X1).sb sb) S'
def gAsgO (i : Nat) (k : Kd) (f : Ev) : Gs := fun ρ => (f ρ).bind fun d => if i < ρ.length then some (.nx (ρ.set i (some (k, d)))) else Option.none
theorem sems_asgO {kr k : Kd} {te : TE} {i : Nat} {f : Ev} (he : SemO K te k f) : SemS K kr (tAsg te (gName i)) (gAsgO i k f) := by
  intro G0 H0 G H σ ρ fp o D X F S e p
  unfold gAsgO at e
  obtain ⟨d, e1, e⟩ := Option.bind_eq_some_iff.mp e
  split at e
  · rename_i hi
    cases e
    refine he G H σ ρ fp d _ X.s S e1 fun v G1 H1 f' X1 b1 n nd => ?_
    obtain ⟨f2, fq, S2, p2, q2⟩ := (S.mono X1.g X1.h).asgO hi b1
    have F1 := F.ext S X1
    refine p _ G1 H1 f2 (X.trans X1) X1.g ⟨fun a m => ?_, ?_⟩ S2
    · rcases List.mem_append.mp (p2.mem_iff.mp m) with m | m
      · exact ⟨(n a m).1, X.h.free (n a m).2⟩
      · exact F1.o a (q2.subset m)
    · rw [p2.nodup_iff, List.nodup_append]
      refine ⟨nd, F.d.sublist q2, fun a m b m' z => ?_⟩
      subst z
      obtain ⟨o', ho⟩ := S.there a (q2.subset m')
      rw [(n a m).2] at ho
      cases ho
  · cases e
/-- a, b = x, y -/
def gPar (i j : Nat) (g : Env → Option (List PyData)) : Gs := fun ρ => (g ρ).bind fun ds => match ds with
  | [x, y] => if i < ρ.length ∧ j < ρ.length then some (.nx ((ρ.set i (some (.val, x))).set j (some (.val, y)))) else Option.none
  | _ => Option.none
theorem sems_par {kr : Kd} {ta : TA} {i j : Nat} {g : Env → Option (List PyData)} (h : SemA K ta .val g) : SemS K kr (tPar i j ta) (gPar i j g) := by
  intro G0 H0 G H σ ρ fp o D X F S e p
  unfold gPar at e
  obtain ⟨ds, e1, e⟩ := Option.bind_eq_some_iff.mp e
  split at e
  · split at e
    · rename_i hij
      cases e
      refine h G H σ ρ fp _ _ X.s S e1 fun vs G1 H1 X1 B => ?_
      obtain ⟨v, w, rfl, b, b'⟩ := B.two
      refine ⟨v, w, rfl, ?_⟩
      obtain ⟨f1, S1, q1⟩ := (S.mono X1.g X1.h).asg hij.1 b.val
      obtain ⟨f2, S2, q2⟩ := S1.asg (i := j) (by simpa using hij.2) b'.val
      exact p _ G1 H1 f2 (X.trans X1) X1.g ((F.ext S X1).sb (q2.trans q1)) S2
    · cases e
  · cases e
def gDrop (f : Ev) : Gs := fun ρ => (f ρ).bind fun _ => some (.nx ρ)
theorem sems_drop {kr k : Kd} {te : TE} {f : Ev} (h : SemE K te k f) : SemS K kr (tDrop te) (gDrop f) := by
  intro G0 H0 G H σ ρ fp o D X F S e p
  unfold gDrop at e
  obtain ⟨d, e1, e⟩ := Option.bind_eq_some_iff.mp e
  cases e
  exact h G H σ ρ fp d _ X.s S e1 fun v G1 H1 X1 _ => p σ G1 H1 fp (X.trans X1) X1.g (F.ext S X1) (S.mono X1.g X1.h)
/-- the slot's own value, taken out -/
theorem Sl.take {G H : Hp} : ∀ {σ : L2.St} {ρ : Env} {fp : List Addr} {i : Nat} {k : Kd} {d : PyData}, Sl K G H σ ρ fp → ρ[i]? = some (some (k, d)) →
    ∃ v f fp', σ[i]? = some (some v) ∧ Ow K G H k v d f ∧ Sl K G H (σ.set i Option.none) (ρ.set i Option.none) fp' ∧ (f ++ fp').Perm fp
  | _, _, _, _, _, _, .nil, e => by simp at e
  | _, _, _, 0, _, _, .skip _, e => by simp at e
  | _, _, _, i + 1, k, d, .skip r, e => by
    obtain ⟨v, f, fp', h1, h2, h3, h4⟩ := Sl.take (i := i) (k := k) (d := d) r (by simpa using e)
    exact ⟨v, f, fp', by simpa using h1, h2, .skip h3, h4⟩
  | _, _, _, 0, _, _, .cons h r, e => by
    simp at e
    obtain ⟨rfl, rfl⟩ := e
    exact ⟨_, _, _, rfl, h, .skip r, List.Perm.refl _⟩
  | _, _, _, i + 1, k, d, .cons (f := f0) h r, e => by
    obtain ⟨v, f, fp', h1, h2, h3, h4⟩ := Sl.take (i := i) (k := k) (d := d) r (by simpa using e)
    refine ⟨v, f, _, by simpa using h1, h2, .cons h h3, ?_⟩
    refine List.Perm.trans ?_ (List.Perm.append_left f0 h4)
    rw [← List.append_assoc, ← List.append_assoc]
    exact List.Perm.append_right fp' List.perm_append_comm
theorem set_back {α : Type} : ∀ {l : List α} {i : Nat} {x y : α}, l[i]? = some x → (l.set i y).set i x = l
  | [], _, _, _, h => by simp at h
  | a :: l, 0, x, y, h => by simp at h; subst h; rfl
  | a :: l, i + 1, x, y, h => by
    simp only [List.set_cons_succ]
    rw [set_back (l := l) (by simpa using h)]
theorem lt_of_get {α : Type} {l : List α} {i : Nat} {x : α} (h : l[i]? = some x) : i < l.length := (List.getElem?_eq_some_iff.mp h).1
/-- an own list is changed -/
theorem Sl.upd {G H : Hp} {σ : L2.St} {ρ : Env} {fp : List Addr} {i : Nat} {k : Kd} {ds : List PyData} (S : Sl K G H σ ρ fp) (e : ρ[i]? = some (some (.lst k, .list ds))) :
    ∃ a vs f0 fr, σ[i]? = some (some (.ref a)) ∧ H a = some (.lst vs) ∧ OwA K G H k vs ds f0 ∧ ((a :: f0) ++ fr).Perm fp ∧
      ∀ (G' H' : Hp) (vs' : List V) (ds' : List PyData) (f' : List Addr), Same G G' → (∀ c ∈ fr, ∀ o, H c = some o → H' c = some o) → H' a = some (.lst vs') → OwA K G' H' k vs' ds' f' →
        ∃ fp', Sl K G' H' σ (ρ.set i (some (.lst k, .list ds'))) fp' ∧ fp'.Perm ((a :: f') ++ fr) := by
  obtain ⟨v, f, fr, h1, h2, h3, h4⟩ := S.take e
  cases h2 with
  | lst q r =>
    rename_i a vs f0
    refine ⟨a, vs, f0, fr, h1, q, r, h4, fun G' H' vs' ds' f' sG sH ha hr => ?_⟩
    have S1 := h3.frame sG sH
    obtain ⟨fp', S2, p2⟩ := S1.put (Ow.lst ha hr) i (by simpa using lt_of_get e) (getElem?_set_none ρ i (lt_of_get e))
    rw [set_back h1, List.set_set] at S2
    exact ⟨fp', S2, p2⟩
theorem nodup_ne {a : Addr} {f r : List Addr} (h : ((a :: f) ++ r).Nodup) : ∀ c ∈ r, c ≠ a := fun c m z => by
  subst z
  exact (List.nodup_append.mp h).2.2 c List.mem_cons_self c m rfl
/-- x.append(e), x an own list of data -/
def tApp (K : PySem.W.Frag) (i : Nat) (te : TE) : TS := tDrop (tBM K "list" rAppend (tVar i) (tCons te tNil))
def gApp (i : Nat) (f : Ev) : Gs := fun ρ => match ρ[i]? with
  | some (some (.lst .val, .list ds)) => (f ρ).bind fun y => if ds.length < most then some (.nx (ρ.set i (some (.lst .val, .list (ds ++ [y]))))) else Option.none
  | _ => Option.none
theorem sems_app {kr : Kd} {te : TE} {i : Nat} {f : Ev} (h : SemE K te .val f) : SemS K kr (tApp K i te) (gApp i f) := by
  intro G0 H0 G H σ ρ fp o D X F S e p
  unfold gApp at e
  split at e
  · rename_i ds ei
    obtain ⟨y, e1, e⟩ := Option.bind_eq_some_iff.mp e
    split at e
    · rename_i hl
      cases e
      obtain ⟨a, vs, f0, fr, hσ, ha, hr, hp, up⟩ := S.upd ei
      obtain ⟨rfl, rA⟩ := hr.nilfp
      refine ⟨.ref a, hσ, .inl ⟨rfl, vs, .inl (.inl ha)⟩, ?_⟩
      refine h G H σ ρ fp y _ X.s S e1 fun v G1 H1 X1 b1 => ?_
      have F1 := F.ext S X1
      have ha1 := X1.h _ _ ha
      refine ⟨a, vs, v, rfl, rfl, ha1, by rw [rA.length, most_eq]; exact hl, ?_⟩
      have nd := nodup_ne (hp.nodup_iff.mpr F.d)
      have ma : a ∈ fp := hp.mem_iff.mp (by simp)
      obtain ⟨fp', S2, p2⟩ := up G1 (upd H1 a (.lst (vs ++ [v]))) (vs ++ [v]) (ds ++ [y]) [] X1.g (fun c m o z => by rw [upd_ne (nd c m)]; exact X1.h _ _ z) upd_same (OwA.of ((rA.mono X1.g).append (.cons b1.val .nil)))
      have XX := X.trans X1
      refine p σ G1 _ fp' ⟨XX.g, fun c o z => ?_, fun c o z => ?_, XX.n⟩ X1.g (F1.perm (p2.trans hp)) S2
      · rw [upd_ne (fun w => by rw [w, (F.o a ma).2] at z; cases z)]
        exact XX.h _ _ z
      · rw [upd_ne (fun w => by rw [w, (F1.o a ma).1] at z; cases z)]
        exact XX.s _ _ z
    · cases e
  · cases e
/-- x.append(e), e something of one's own -/
def gAppO (i : Nat) (k : Kd) (f : Ev) : Gs := fun ρ => match ρ[i]? with
  | some (some (.lst l, .list ds)) => if l = k then (f ρ).bind fun y => if ds.length < most then some (.nx (ρ.set i (some (.lst l, .list (ds ++ [y]))))) else Option.none else Option.none
  | _ => Option.none
theorem OwA.append {G H : Hp} {k : Kd} : ∀ {vs us : List V} {ds es : List PyData} {f f' : List Addr}, OwA K G H k vs ds f → OwA K G H k us es f' → OwA K G H k (vs ++ us) (ds ++ es) (f ++ f')
  | _, _, _, _, _, _, .nil, s => s
  | _, _, _, _, _, _, .cons h r, s => by rw [List.append_assoc]; exact .cons h (OwA.append r s)
theorem OwA.length {G H : Hp} {k : Kd} : ∀ {vs : List V} {ds : List PyData} {f : List Addr}, OwA K G H k vs ds f → vs.length = ds.length
  | _, _, _, .nil => rfl
  | _, _, _, .cons _ r => by simp [r.length]
theorem sems_appO {kr k : Kd} {te : TE} {i : Nat} {f : Ev} (h : SemO K te k f) : SemS K kr (tApp K i te) (gAppO i k f) := by
  intro G0 H0 G H σ ρ fp o D X F S e p
  unfold gAppO at e
  split at e
  · rename_i l ds ei
    split at e
    · rename_i hk
      subst hk
      obtain ⟨y, e1, e⟩ := Option.bind_eq_some_iff.mp e
      split at e
      · rename_i hl
        cases e
        obtain ⟨a, vs, f0, fr, hσ, ha, hr, hp, up⟩ := S.upd ei
        refine ⟨.ref a, hσ, .inl ⟨rfl, vs, .inl (.inl ha)⟩, ?_⟩
        refine h G H σ ρ fp y _ X.s S e1 fun v G1 H1 f1 X1 b1 n1 nd1 => ?_
        have F1 := F.ext S X1
        have ha1 := X1.h _ _ ha
        refine ⟨a, vs, v, rfl, rfl, ha1, by rw [hr.length, most_eq]; exact hl, ?_⟩
        have ndp := hp.nodup_iff.mpr F.d
        have nd := nodup_ne ndp
        have ma : a ∈ fp := hp.mem_iff.mp (by simp)
        have na0 : ∀ c ∈ f0, c ≠ a := fun c m z => by
          subst z
          exact (List.nodup_cons.mp (List.nodup_append.mp ndp).1).1 m
        have na1 : ∀ c ∈ f1, c ≠ a := fun c m z => by
          subst z
          rw [(n1 c m).2] at ha
          cases ha
        have keep : ∀ c o, c ≠ a → H1 c = some o → (upd H1 a (.lst (vs ++ [v]))) c = some o := fun c o w z => by rw [upd_ne w]; exact z
        obtain ⟨fp', S2, p2⟩ := up G1 (upd H1 a (.lst (vs ++ [v]))) (vs ++ [v]) (ds ++ [y]) (f0 ++ (f1 ++ [])) X1.g (fun c m o z => keep c o (nd c m) (X1.h _ _ z)) upd_same
          (OwA.append (hr.frame X1.g fun c m o z => keep c o (na0 c m) (X1.h _ _ z)) (.cons (b1.frame (Same.refl _) fun c m o z => keep c o (na1 c m) z) .nil))
        have XX := X.trans X1
        refine p σ G1 _ fp' ⟨XX.g, fun c o z => ?_, fun c o z => ?_, XX.n⟩ X1.g ?_ S2
        · rw [upd_ne (fun w => by rw [w, (F.o a ma).2] at z; cases z)]
          exact XX.h _ _ z
        · rw [upd_ne (fun w => by rw [w, (F1.o a ma).1] at z; cases z)]
          exact XX.s _ _ z
        · have q : fp'.Perm (f1 ++ fp) := by
            refine p2.trans ?_
            rw [List.append_nil]
            have z : (a :: (f0 ++ f1) ++ fr).Perm (f1 ++ ((a :: f0) ++ fr)) := by
              show (a :: f0 ++ f1 ++ fr).Perm _
              rw [← List.append_assoc]
              exact List.Perm.append_right fr List.perm_append_comm
            exact z.trans (List.Perm.append_left f1 hp)
          refine ⟨fun c m => ?_, ?_⟩
          · rcases List.mem_append.mp (q.mem_iff.mp m) with m | m
            · exact ⟨(n1 c m).1, X.h.free (n1 c m).2⟩
            · exact F1.o c m
          · rw [q.nodup_iff, List.nodup_append]
            refine ⟨nd1, F.d, fun c m b m' z => ?_⟩
            subst z
            obtain ⟨o', ho⟩ := S.there c m'
            rw [(n1 c m).2] at ho
            cases ho
      · cases e
    · cases e
  · cases e
/-- x.extend(e) -/
def tExt (K : PySem.W.Frag) (i : Nat) (te : TE) : TS := tDrop (tBM K "list" rExtend (tVar i) (tCons te tNil))
def gExt (i : Nat) (f : Ev) : Gs := fun ρ => match ρ[i]? with
  | some (some (.lst .val, .list ds)) => (f ρ).bind fun y => match y with
    | .list es => if ds.length + es.length ≤ most then some (.nx (ρ.set i (some (.lst .val, .list (ds ++ es))))) else Option.none
    | _ => Option.none
  | _ => Option.none
theorem sems_ext {kr : Kd} {te : TE} {i : Nat} {f : Ev} (h : SemE K te (.lst .val) f) : SemS K kr (tExt K i te) (gExt i f) := by
  intro G0 H0 G H σ ρ fp o D X F S e p
  unfold gExt at e
  split at e
  · rename_i ds ei
    obtain ⟨y, e1, e⟩ := Option.bind_eq_some_iff.mp e
    split at e
    · rename_i es
      split at e
      · rename_i hl
        cases e
        obtain ⟨a, vs, f0, fr, hσ, ha, hr, hp, up⟩ := S.upd ei
        obtain ⟨rfl, rA⟩ := hr.nilfp
        refine ⟨.ref a, hσ, .inl ⟨rfl, vs, .inl (.inl ha)⟩, ?_⟩
        refine h G H σ ρ fp _ _ X.s S e1 fun v G1 H1 X1 b1 => ?_
        have F1 := F.ext S X1
        have ha1 := X1.h _ _ ha
        obtain ⟨b, us, rfl, hb, rb⟩ := b1.list X1.s
        refine ⟨a, b, vs, us, rfl, rfl, ha1, hb, by rw [rA.length, rb.length, most_eq]; exact hl, ?_⟩
        have nd := nodup_ne (hp.nodup_iff.mpr F.d)
        have ma : a ∈ fp := hp.mem_iff.mp (by simp)
        obtain ⟨fp', S2, p2⟩ := up G1 (upd H1 a (.lst (vs ++ us))) (vs ++ us) (ds ++ es) [] X1.g (fun c m o z => by rw [upd_ne (nd c m)]; exact X1.h _ _ z) upd_same (OwA.of ((rA.mono X1.g).append (BrA.val rb)))
        have XX := X.trans X1
        refine p σ G1 _ fp' ⟨XX.g, fun c o z => ?_, fun c o z => ?_, XX.n⟩ X1.g (F1.perm (p2.trans hp)) S2
        · rw [upd_ne (fun w => by rw [w, (F.o a ma).2] at z; cases z)]
          exact XX.h _ _ z
        · rw [upd_ne (fun w => by rw [w, (F1.o a ma).1] at z; cases z)]
          exact XX.s _ _ z
      · cases e
    · cases e
  · cases e
/-- x[j] = e, x an own list of data -/
def tSet (i : Nat) (tj te : TE) : TS := tAsg te (gSub (tVar i) tj rSetL)
def gSet (i : Nat) (j f : Ev) : Gs := fun ρ => (f ρ).bind fun y => match ρ[i]? with
  | some (some (.lst .val, .list ds)) => (j ρ).bind fun jj => match jj with
    | .int n => (ixN ds.length n).bind fun m => some (.nx (ρ.set i (some (.lst .val, .list (ds.set m y)))))
    | _ => Option.none
  | _ => Option.none
theorem sems_set {kr : Kd} {tj te : TE} {i : Nat} {j f : Ev} (h : SemE K te .val f) (hj : SemE K tj .any j) : SemS K kr (tSet i tj te) (gSet i j f) := by
  intro G0 H0 G H σ ρ fp o D X F S e p
  unfold gSet at e
  obtain ⟨y, e1, e⟩ := Option.bind_eq_some_iff.mp e
  split at e
  · rename_i ds ei
    obtain ⟨jj, e2, e⟩ := Option.bind_eq_some_iff.mp e
    split at e
    · rename_i n
      obtain ⟨m, e3, e⟩ := Option.bind_eq_some_iff.mp e
      cases e
      obtain ⟨a, vs, f0, fr, hσ, ha, hr, hp, up⟩ := S.upd ei
      obtain ⟨rfl, rA⟩ := hr.nilfp
      refine h G H σ ρ fp y _ X.s S e1 fun v G1 H1 X1 b1 => ?_
      refine ⟨.ref a, hσ, ?_⟩
      refine hj G1 H1 σ ρ fp _ _ X1.s (S.mono X1.g X1.h) e2 fun w G2 H2 X2 b2 => ?_
      cases b2.int
      have X3 := X1.trans X2
      have F1 := F.ext S X3
      have ha1 := X3.h _ _ ha
      refine ⟨a, vs, n, m, rfl, rfl, ha1, by rw [rA.length]; exact e3, ?_⟩
      have nd := nodup_ne (hp.nodup_iff.mpr F.d)
      have ma : a ∈ fp := hp.mem_iff.mp (by simp)
      obtain ⟨fp', S2, p2⟩ := up G2 (upd H2 a (.lst (vs.set m v))) (vs.set m v) (ds.set m y) [] X3.g (fun c m o z => by rw [upd_ne (nd c m)]; exact X3.h _ _ z) upd_same (OwA.of (RpA.set (b1.val.mono X2.g) m (rA.mono X3.g)))
      have XX := X.trans X3
      refine p σ G2 _ fp' ⟨XX.g, fun c o z => ?_, fun c o z => ?_, XX.n⟩ X3.g (F1.perm (p2.trans hp)) S2
      · rw [upd_ne (fun w => by rw [w, (F.o a ma).2] at z; cases z)]
        exact XX.h _ _ z
      · rw [upd_ne (fun w => by rw [w, (F1.o a ma).1] at z; cases z)]
        exact XX.s _ _ z
    · cases e
  · cases e
/-- an own list is given up: from here on it is data -/
def gFrz (i : Nat) (g : Gs) : Gs := fun ρ => match ρ[i]? with
  | some (some (_, d)) => g (ρ.set i (some (.val, d)))
  | _ => Option.none
theorem sems_frz {kr : Kd} {t : TS} {g : Gs} (i : Nat) (h : SemS K kr t g) : SemS K kr t (gFrz i g) := by
  intro G0 H0 G H σ ρ fp o D X F S e p
  unfold gFrz at e
  split at e
  · rename_i k d ei
    obtain ⟨v, f, fr, h1, h2, h3, h4⟩ := S.take ei
    have nd := h4.nodup_iff.mpr F.d
    have dis : ∀ a ∈ fr, a ∉ f := fun a m m' => (List.nodup_append.mp nd).2.2 a m' a m rfl
    have sG := add_same X.s f
    obtain ⟨fp', S2, p2⟩ := (h3.frame sG fun _ _ _ z => z).put (Ow.val (h2.freeze X.s fun _ m => m)) i (by simpa using lt_of_get ei) (getElem?_set_none ρ i (lt_of_get ei))
    rw [set_back h1, List.set_set] at S2
    refine h G0 H0 (add G H f) H σ _ fp' o D ⟨X.g.trans sG, X.h, add_sub X.s f, fun a o1 z1 z2 => ?_⟩ ⟨fun a m => ?_, ?_⟩ S2 e (p.mono sG)
    · unfold add
      rw [if_neg (fun m => by rw [(F.o a (h4.mem_iff.mp (List.mem_append_left _ m))).2] at z2; cases z2)]
      exact X.n a o1 z1 z2
    · have m' : a ∈ fr := by simpa using p2.mem_iff.mp m
      have q := F.o a (h4.mem_iff.mp (List.mem_append_right _ m'))
      refine ⟨?_, q.2⟩
      unfold add
      rw [if_neg (dis a m')]
      exact q.1
    · rw [p2.nodup_iff]
      simpa using (List.nodup_append.mp nd).2.1
  · cases e

/-! ### if, return -/
def gIf (c : Env → Option Bool) (g u : Gs) : Gs := fun ρ => (c ρ).bind fun b => if b = true then g ρ else u ρ
theorem sems_if {kr : Kd} {c : TT} {t u : TS} {fc : Env → Option Bool} {g w : Gs} (hc : SemT K c fc) (h : SemS K kr t g) (h2 : SemS K kr u w) : SemS K kr (tIfS c t u) (gIf fc g w) := by
  intro G0 H0 G H σ ρ fp o D X F S e p
  unfold gIf at e
  obtain ⟨b, e1, e⟩ := Option.bind_eq_some_iff.mp e
  refine hc G H σ ρ fp b _ X.s S e1 fun G1 H1 X1 => ?_
  cases b with
  | true =>
    rw [if_pos rfl] at e ⊢
    exact h G0 H0 G1 H1 σ ρ fp o D (X.trans X1) (F.ext S X1) (S.mono X1.g X1.h) e (p.mono X1.g)
  | false =>
    rw [if_neg Bool.false_ne_true] at e ⊢
    exact h2 G0 H0 G1 H1 σ ρ fp o D (X.trans X1) (F.ext S X1) (S.mono X1.g X1.h) e (p.mono X1.g)
def gNever : Gs := fun _ => Option.none
theorem sems_never {kr : Kd} : SemS K kr tNever gNever := by
  intro G0 H0 G H σ ρ fp o D X F S e p
  cases e
def gBrk : Gs := fun ρ => some (.bk ρ)
def gCnt : Gs := fun ρ => some (.ct ρ)
theorem sems_brk {kr : Kd} : SemS K kr tBreak gBrk := by
  intro G0 H0 G H σ ρ fp o D X F S e p
  cases e
  exact p σ G H fp X (Same.refl _) F S
theorem sems_cnt {kr : Kd} : SemS K kr tCont gCnt := by
  intro G0 H0 G H σ ρ fp o D X F S e p
  cases e
  exact p σ G H fp X (Same.refl _) F S
def gRet (f : Ev) : Gs := fun ρ => (f ρ).bind fun d => some (.rt d)
theorem sems_ret {te : TE} {f : Ev} (h : SemE K te .val f) : SemS K .val (tRet te) (gRet f) := by
  intro G0 H0 G H σ ρ fp o D X F S e p
  unfold gRet at e
  obtain ⟨d, e1, e⟩ := Option.bind_eq_some_iff.mp e
  cases e
  exact h G H σ ρ fp d _ X.s S e1 fun v G1 H1 X1 b1 => p v G1 H1 [] (X.trans X1) (.val b1.val) .nil
theorem sems_retO {te : TE} {k : Kd} {f : Ev} (h : SemO K te k f) : SemS K k (tRet te) (gRet f) := by
  intro G0 H0 G H σ ρ fp o D X F S e p
  unfold gRet at e
  obtain ⟨d, e1, e⟩ := Option.bind_eq_some_iff.mp e
  cases e
  exact h G H σ ρ fp d _ X.s S e1 fun v G1 H1 f' X1 b1 n nd => p v G1 H1 f' (X.trans X1) b1 ⟨fun a m => ⟨(n a m).1, X.h.free (n a m).2⟩, nd⟩
/-- return x, x an own list -/
def gRetV (k : Kd) (i : Nat) : Gs := fun ρ => match ρ[i]? with
  | some (some (l, d)) => if l = k then some (.rt d) else Option.none
  | _ => Option.none
theorem sems_retV (k : Kd) (i : Nat) : SemS K k (tRet (tVar i)) (gRetV k i) := by
  intro G0 H0 G H σ ρ fp o D X F S e p
  unfold gRetV at e
  split at e
  · rename_i l d ei
    split at e
    · rename_i hl
      subst hl
      cases e
      obtain ⟨v, f, fr, h1, h2, h3, h4⟩ := S.take ei
      refine ⟨v, h1, p v G H f X h2 ?_⟩
      exact (F.perm h4).sub (List.sublist_append_left _ _)
    · cases e
  · cases e
def gRetN : Gs := fun _ => some (.rt .none)
theorem sems_retN : SemS K .val tRetN gRetN := by
  intro G0 H0 G H σ ρ fp o D X F S e p
  cases e
  exact p .non G H [] X (.val .non) .nil

/-! ### loops -/
def forF (a : PyData → Env → Option Env) (b : Gs) : List PyData → Env → Option Out
  | [], ρ => some (.nx ρ)
  | d :: ds, ρ => (a d ρ).bind fun ρ1 => (b ρ1).bind fun o => match o with
    | .nx ρ' => forF a b ds ρ'
    | .ct ρ' => forF a b ds ρ'
    | .bk ρ' => some (.nx ρ')
    | .rt d => some (.rt d)
def gFor (i : Env → Option (List PyData)) (a : PyData → Env → Option Env) (b : Gs) : Gs := fun ρ => (i ρ).bind fun ds => forF a b ds ρ
theorem sems_for {kr : Kd} {wi : TI} {g : TG} {tb : TS} {js : List Nat} {fi : Env → Option (List PyData)} {a : PyData → Env → Option Env} {b : Gs} (hi : SemI K true wi fi) (hg : SemG K g js a) (hb : SemS K kr tb b) : SemS K kr (tFor wi g tb) (gFor fi a b) := by
  intro G0 H0 G H σ ρ fp o D X F S e p
  unfold gFor at e
  obtain ⟨ds, e1, e⟩ := Option.bind_eq_some_iff.mp e
  refine hi G H σ ρ fp ds _ X.s S e1 fun J G1 H1 X1 ok => ?_
  refine ⟨fun i m σi Hi => m = ds.length - i ∧ i ≤ ds.length ∧ ∃ (Gi : Hp) (ρi : Env) (fi : List Addr), Ext G0 H0 Gi Hi ∧ Same G1 Gi ∧ Fp H0 Gi fi ∧ Sl K Gi Hi σi ρi fi ∧ forF a b (ds.drop i) ρi = some o,
    ⟨ds.length, by simp, Nat.zero_le _, G1, ρ, fp, X.trans X1, Same.refl _, F.ext S X1, S.mono X1.g X1.h, by simpa using e⟩, ?_⟩
  rintro i m σi Hi ⟨rfl, hi', Gi, ρi, fi, Xi, sG, Fi, Si, hl⟩
  have okI := ok Gi Hi i sG (fun z => by cases z) Xi.s
  by_cases hlt : i < ds.length
  · obtain ⟨dd, hd⟩ : ∃ dd, ds[i]? = some dd := ⟨ds[i], by simp [hlt]⟩
    have hdrop : ds.drop i = dd :: ds.drop (i + 1) := by
      rw [List.drop_eq_getElem_cons hlt]
      rw [List.getElem?_eq_getElem hlt] at hd
      cases hd; rfl
    rw [hdrop] at hl
    unfold forF at hl
    obtain ⟨ρ1, a1, hl⟩ := Option.bind_eq_some_iff.mp hl
    obtain ⟨o1, b1, hl⟩ := Option.bind_eq_some_iff.mp hl
    obtain ⟨go, yl⟩ := okI.1 dd hd
    refine .inr ⟨go, fun σ' H' => ∃ (G' : Hp) (ρ' : Env) (f' : List Addr), Ext G0 H0 G' H' ∧ Same G1 G' ∧ Fp H0 G' f' ∧ Sl K G' H' σ' ρ' f' ∧ forF a b (ds.drop (i + 1)) ρ' = some o, ?_, ?_⟩
    · rintro σ' H' ⟨G', ρ', f', h1, h2, h3, h4, h5⟩
      exact ⟨ds.length - (i + 1), by omega, rfl, hlt, G', ρ', f', h1, h2, h3, h4, h5⟩
    · intro x H2 hy
      obtain ⟨G2, X2, r2⟩ := yl x H2 hy
      refine hg G2 H2 σi ρi fi x dd ρ1 _ X2.s (Si.mono X2.g X2.h) r2 a1 fun σ2 f2 S2 sb _ _ => ?_
      have XX := Xi.trans X2
      refine hb G0 H0 G2 H2 σ2 ρ1 f2 o1 _ XX ((Fi.ext Si X2).sb sb) S2 b1 ?_
      have sG2 := sG.trans X2.g
      cases o1 with
      | nx ρ' => exact fun σ' G' H' fp' a1 a2 a3 a4 => ⟨G', ρ', fp', a1, sG2.trans a2, a3, a4, hl⟩
      | ct ρ' => exact fun σ' G' H' fp' a1 a2 a3 a4 => ⟨G', ρ', fp', a1, sG2.trans a2, a3, a4, hl⟩
      | bk ρ' =>
        cases hl
        exact fun σ' G' H' fp' a1 a2 a3 a4 => p σ' G' H' fp' a1 ((X1.g.trans sG2).trans a2) a3 a4
      | rt d =>
        cases hl
        exact p
  · have ei : i = ds.length := by omega
    subst ei
    rw [List.drop_length] at hl
    unfold forF at hl
    cases hl
    exact .inl ⟨okI.2 (Nat.le_refl _), p σi Gi Hi fi Xi (X1.g.trans sG) Fi Si⟩
def whileF (c : Env → Option Bool) (b : Gs) : Nat → Env → Option Out
  | 0, _ => Option.none
  | n + 1, ρ => (c ρ).bind fun x => if x = true then (b ρ).bind fun o => match o with
    | .nx ρ' => whileF c b n ρ'
    | .ct ρ' => whileF c b n ρ'
    | .bk ρ' => some (.nx ρ')
    | .rt d => some (.rt d) else some (.nx ρ)
open Classical in
noncomputable def gWhile (c : Env → Option Bool) (b : Gs) : Gs := fun ρ => if h : ∃ o, ∃ n, whileF c b n ρ = some o then some (Classical.choose h) else Option.none
theorem sems_while {kr : Kd} {tc : TT} {tb : TS} {c : Env → Option Bool} {b : Gs} (hc : SemT K tc c) (hb : SemS K kr tb b) : SemS K kr (tWhile tc tb) (gWhile c b) := by
  intro G0 H0 G H σ ρ fp o D X F S e p
  unfold gWhile at e
  split at e
  · rename_i hh
    cases e
    obtain ⟨n, hn⟩ := Classical.choose_spec hh
    generalize Classical.choose hh = o at hn p
    refine ⟨fun m σi Hi => ∃ (Gi : Hp) (ρi : Env) (fi : List Addr), Ext G0 H0 Gi Hi ∧ Same G Gi ∧ Fp H0 Gi fi ∧ Sl K Gi Hi σi ρi fi ∧ whileF c b m ρi = some o, ⟨n, G, ρ, fp, X, Same.refl _, F, S, hn⟩, ?_⟩
    rintro m σi Hi ⟨Gi, ρi, fi, Xi, sG, Fi, Si, hl⟩
    cases m with
    | zero => cases hl
    | succ m =>
      unfold whileF at hl
      obtain ⟨x, c1, hl⟩ := Option.bind_eq_some_iff.mp hl
      refine hc Gi Hi σi ρi fi x _ Xi.s Si c1 fun G1 H1 X1 => ?_
      have XX := Xi.trans X1
      have F1 := Fi.ext Si X1
      have S1 := Si.mono X1.g X1.h
      have sG1 := sG.trans X1.g
      cases x with
      | true =>
        rw [if_pos rfl] at hl ⊢
        obtain ⟨o1, b1, hl⟩ := Option.bind_eq_some_iff.mp hl
        refine ⟨fun σ' H' => ∃ (Gi : Hp) (ρi : Env) (fi : List Addr), Ext G0 H0 Gi H' ∧ Same G Gi ∧ Fp H0 Gi fi ∧ Sl K Gi H' σ' ρi fi ∧ whileF c b m ρi = some o, fun σ' H' q => ⟨m, Nat.lt_succ_self _, q⟩, ?_⟩
        refine hb G0 H0 G1 H1 σi ρi fi o1 _ XX F1 S1 b1 ?_
        cases o1 with
        | nx ρ' => exact fun σ' G' H' fp' a1 a2 a3 a4 => ⟨G', ρ', fp', a1, sG1.trans a2, a3, a4, hl⟩
        | ct ρ' => exact fun σ' G' H' fp' a1 a2 a3 a4 => ⟨G', ρ', fp', a1, sG1.trans a2, a3, a4, hl⟩
        | bk ρ' =>
          cases hl
          exact fun σ' G' H' fp' a1 a2 a3 a4 => p σ' G' H' fp' a1 (sG1.trans a2) a3 a4
        | rt d =>
          cases hl
          exact p
      | false =>
        rw [if_neg Bool.false_ne_true] at hl ⊢
        cases hl
        exact p σi G1 H1 fi XX sG1 F1 S1
  · cases e
theorem whileF_mono {c : Env → Option Bool} {b : Gs} : ∀ {n m : Nat} {ρ : Env} {o : Out}, n ≤ m → whileF c b n ρ = some o → whileF c b m ρ = some o
  | 0, _, _, _, _, h => by cases h
  | n + 1, 0, _, _, l, _ => by omega
  | n + 1, m + 1, ρ, o, l, h => by
    unfold whileF at h ⊢
    obtain ⟨x, c1, h⟩ := Option.bind_eq_some_iff.mp h
    rw [c1]
    show (if x = true then _ else _) = _
    cases x with
    | true =>
      rw [if_pos rfl] at h ⊢
      obtain ⟨o1, b1, h⟩ := Option.bind_eq_some_iff.mp h
      rw [b1]
      show (match o1 with | .nx ρ' => whileF c b m ρ' | .ct ρ' => whileF c b m ρ' | .bk ρ' => some (.nx ρ') | .rt d => some (.rt d)) = _
      cases o1 with
      | nx ρ' => exact whileF_mono (by omega) h
      | ct ρ' => exact whileF_mono (by omega) h
      | bk ρ' => exact h
      | rt d => exact h
    | false =>
      rw [if_neg Bool.false_ne_true] at h ⊢
      exact h
theorem gWhile_of {c : Env → Option Bool} {b : Gs} {n : Nat} {ρ : Env} {o : Out} (h : whileF c b n ρ = some o) : gWhile c b ρ = some o := by
  unfold gWhile
  have hh : ∃ o, ∃ n, whileF c b n ρ = some o := ⟨o, n, h⟩
  rw [dif_pos hh]
  obtain ⟨m, hm⟩ := Classical.choose_spec hh
  have a := whileF_mono (Nat.le_max_left n m) h
  have b' := whileF_mono (Nat.le_max_right n m) hm
  rw [a] at b'
  exact b'.symm

/-! ### a def -/
/-- the slots at the entry -/
def ent (n : Nat) (ds : List PyData) : Env := ds.map (fun d => some (Kd.val, d)) ++ List.replicate (n - ds.length) Option.none
/-- what the def gives -/
def run (g : Gs) (n np : Nat) : DA := fun ds => if ds.length = np then (g (ent n ds)).bind fun o => match o with
  | .rt d => some d
  | .nx _ => some .none
  | _ => Option.none else Option.none
theorem sl_none {G H : Hp} : ∀ n : Nat, Sl K G H (List.replicate n Option.none) (List.replicate n Option.none) []
  | 0 => .nil
  | n + 1 => .skip (sl_none n)
theorem sl_start {G H : Hp} {N : List Str} : ∀ {vs : List V} {ds : List PyData}, RpA K G vs ds → ∀ n, Sl K G H (vs.map some ++ List.replicate n Option.none) (ds.map (fun d => some (Kd.val, d)) ++ List.replicate n Option.none) []
  | _, _, .nil, n => sl_none n
  | _, _, .cons h r, n => .cons (.val h) (sl_start (N := N) r n)
section
variable {P : Program} {w : World} {mg : Str → Option Value} {base : Heap}
theorem fn_spD {x qual : Str} {st : Stmt} {f : Addr} {fd : FuncData} {N ps : List Str} {k : Nat} {g : Gs} (F : Fun K x qual st f fd) (S : FnScope N ps (defScope st))
    (hb : ∀ (cdv : Value) (A : Around) (outer : List PySem.Env) (s : Shared) (H : Hp) (E : XK), Room k (A.deeper (envOfC qual (defScope st) s.heap.objs.size f cdv)) → ∃ t, PSs (cxOf CX0 P w K mg base N qual (defScope st) f cdv A outer s H E).nox (defBody st) t ∧ SemS K .val t g) : FnOk P w K mg base CX0 (k + 1) f fd ps (spD K (run g N.length ps.length)) := by
  have len : ∀ vs H Q E, spD K (run g N.length ps.length) vs H Q E → vs.length = ps.length := fun vs H Q E h => by
    obtain ⟨G, ds, d, _, r, e, _⟩ := h
    unfold run at e
    split at e
    · rename_i hl
      rw [r.length]; exact hl
    · cases e
  refine F.ok S len (fun cdv A outer s H vs Q E hr h => ?_)
  obtain ⟨t, ht, hs⟩ := hb cdv A outer s H E hr
  refine ⟨t, ht, ?_⟩
  obtain ⟨G, ds, d, sG, r, e, q⟩ := h
  unfold run at e
  split at e
  · obtain ⟨o, e1, e⟩ := Option.bind_eq_some_iff.mp e
    have z : L2.start N vs = vs.map some ++ List.replicate (N.length - ds.length) Option.none := by unfold L2.start; rw [r.length]
    rw [z]
    refine hs G H G H _ _ [] o _ (Ext.refl sG) .nil (sl_start (N := N) r _) e1 ?_
    cases o with
    | rt d' =>
      cases e
      intro v G' H' f' X ow F'
      cases ow with
      | val h => exact q v G' H' X h
    | nx ρ' =>
      cases e
      exact fun σ' G' H' fp' X _ _ _ => q .non G' H' X .non
    | bk ρ' => cases e
    | ct ρ' => cases e
  · cases e
theorem fn_spO {x qual : Str} {st : Stmt} {f : Addr} {fd : FuncData} {N ps : List Str} {k : Nat} {kr : Kd} {g : Gs} (F : Fun K x qual st f fd) (S : FnScope N ps (defScope st))
    (hb : ∀ (cdv : Value) (A : Around) (outer : List PySem.Env) (s : Shared) (H : Hp) (E : XK), Room k (A.deeper (envOfC qual (defScope st) s.heap.objs.size f cdv)) → ∃ t, PSs (cxOf CX0 P w K mg base N qual (defScope st) f cdv A outer s H E).nox (defBody st) t ∧ SemS K kr t g) : FnOk P w K mg base CX0 (k + 1) f fd ps (spO K kr (run (gSeq g gNever) N.length ps.length)) := by
  have len : ∀ vs H Q E, spO K kr (run (gSeq g gNever) N.length ps.length) vs H Q E → vs.length = ps.length := fun vs H Q E h => by
    obtain ⟨G, ds, d, _, r, e, _⟩ := h
    unfold run at e
    split at e
    · rename_i hl
      rw [r.length]; exact hl
    · cases e
  refine F.ok S len (fun cdv A outer s H vs Q E hr h => ?_)
  obtain ⟨t, ht, hs⟩ := hb cdv A outer s H E hr
  refine ⟨t, ht, ?_⟩
  obtain ⟨G, ds, d, sG, r, e, q⟩ := h
  unfold run at e
  split at e
  · obtain ⟨o, e1, e⟩ := Option.bind_eq_some_iff.mp e
    have z : L2.start N vs = vs.map some ++ List.replicate (N.length - ds.length) Option.none := by unfold L2.start; rw [r.length]
    rw [z]
    unfold gSeq at e1
    obtain ⟨o1, e2, e1⟩ := Option.bind_eq_some_iff.mp e1
    cases o1 with
    | nx ρ' => cases e1
    | bk ρ' => cases e1; cases e
    | ct ρ' => cases e1; cases e
    | rt d' =>
      cases e1
      cases e
      refine hs G H G H _ _ [] _ _ (Ext.refl sG) .nil (sl_start (N := N) r _) e2 ?_
      exact fun v G' H' f' X ow F' => q v G' H' f' X ow F'.o F'.d
  · cases e
/-- a def that gives something of its own gives data -/
theorem FnOk.data {f : Addr} {fd : FuncData} {ps : List Str} {k : Nat} {kr : Kd} {m : DA} (h : FnOk P w K mg base CX0 k f fd ps (spO K kr m)) : FnOk P w K mg base CX0 k f fd ps (spD K m) := h.imp fun vs H Q E q => by
  obtain ⟨G, ds, d, sG, r, e, q⟩ := q
  exact ⟨G, ds, d, sG, r, e, fun v G' H' f' X o n _ => q v (add G' H' f') H' ⟨X.g.trans (add_same X.s f'), X.h, add_sub X.s f', fun a o' e1 e2 => by
      unfold add
      rw [if_neg (fun m => by rw [(n a m).2] at e2; cases e2)]
      exact X.n a o' e1 e2⟩ (o.freeze X.s fun _ m => m)⟩
end
end DL

/-! DLf: repr; the law's own def, run by its caller (no repr is under way there). -/
namespace DL
open PySem PySem.Spec PyProof.Rows L2
variable {K : PySem.W.Frag}

/-! ### how long a repr is -/
mutual
/-- data without texts and dicts whose ints are short -/
def plainR : PyData → Bool
  | .none => true
  | .bool _ => true
  | .int i => decide (i.natAbs.log2 < 1920)
  | .str _ => false
  | .list xs => plainRA xs
  | .tuple xs => plainRA xs
  | .dict _ => false
def plainRA : List PyData → Bool
  | [] => true
  | x :: r => plainR x && plainRA r
end
mutual
/-- nodes -/
def szR : PyData → Nat
  | .list xs => szRA xs + 1
  | .tuple xs => szRA xs + 1
  | _ => 1
def szRA : List PyData → Nat
  | [] => 0
  | x :: r => szR x + szRA r
end
theorem intText_le {i : Int} (h : i.natAbs.log2 < 1920) : (Str.ofString (toString i)).length ≤ 1921 := by
  rw [PySem.ofString_length]
  exact int_text_length_le (by decide) h
mutual
theorem shown_le : ∀ d : PyData, plainR d = true → d.shown.length + 3 ≤ 1930 * szR d
  | .none, _ => by simp only [PyData.shown, szR]; decide +kernel
  | .bool true, _ => by simp only [PyData.shown, szR]; decide +kernel
  | .bool false, _ => by simp only [PyData.shown, szR]; decide +kernel
  | .int i, h => by
    simp only [plainR, decide_eq_true_eq] at h
    have e := intText_le h
    simp only [PyData.shown, szR]
    omega
  | .str _, h => by simp [plainR] at h
  | .dict _, h => by simp [plainR] at h
  | .list xs, h => by
    simp only [plainR] at h
    have e := shownA_le xs h
    have l := listText_len_le (PyData.shownAll xs)
    simp only [PyData.shown, szR]
    omega
  | .tuple xs, h => by
    simp only [plainR] at h
    have e := shownA_le xs h
    have l := tupleText_len_le (PyData.shownAll xs)
    simp only [PyData.shown, szR]
    omega
theorem shownA_le : ∀ xs : List PyData, plainRA xs = true → ((PyData.shownAll xs).map (·.length)).sum + 3 * (PyData.shownAll xs).length ≤ 1930 * szRA xs
  | [], _ => by simp [PyData.shownAll, szRA]
  | x :: r, h => by
    simp only [plainRA, Bool.and_eq_true] at h
    have e1 := shown_le x h.1
    have e2 := shownA_le r h.2
    simp only [PyData.shownAll, szRA, List.map_cons, List.sum_cons, List.length_cons]
    omega
end
mutual
theorem plain_show : ∀ d : PyData, plainR d = true → d.showable = true
  | .none, _ => by simp [PyData.showable]
  | .bool _, _ => by simp [PyData.showable]
  | .int i, h => by simpa [plainR, PyData.showable] using h
  | .str _, h => by simp [plainR] at h
  | .dict _, h => by simp [plainR] at h
  | .list xs, h => by simp only [plainR] at h; simp only [PyData.showable]; exact plainA_show xs h
  | .tuple xs, h => by simp only [plainR] at h; simp only [PyData.showable]; exact plainA_show xs h
theorem plainA_show : ∀ xs : List PyData, plainRA xs = true → PyData.showableAll xs = true
  | [], _ => by simp [PyData.showableAll]
  | x :: r, h => by
    simp only [plainRA, Bool.and_eq_true] at h
    simp only [PyData.showableAll, Bool.and_eq_true]
    exact ⟨plain_show x h.1, plainA_show r h.2⟩
end
mutual
theorem plain_lay : ∀ d : PyData, plainR d = true → d.canLay0 = true
  | .none, _ => by simp [PyData.canLay0]
  | .bool _, _ => by simp [PyData.canLay0]
  | .int i, h => by simp [PyData.canLay0]
  | .str _, h => by simp [plainR] at h
  | .dict _, h => by simp [plainR] at h
  | .list xs, h => by simp only [plainR] at h; simp only [PyData.canLay0]; exact plainA_lay xs h
  | .tuple xs, h => by simp only [plainR] at h; simp only [PyData.canLay0]; exact plainA_lay xs h
theorem plainA_lay : ∀ xs : List PyData, plainRA xs = true → PyData.canLayAll0 xs = true
  | [], _ => by simp [PyData.canLayAll0]
  | x :: r, h => by
    simp only [plainRA, Bool.and_eq_true] at h
    simp only [PyData.canLayAll0, Bool.and_eq_true]
    exact ⟨plain_lay x h.1, plainA_lay r h.2⟩
end
/-- repr(x) -/
def okR (d : PyData) : Bool := plainR d && decide (d.depth ≤ 60) && decide (szR d ≤ 8600)
def dRepr : DA
  | [d] => if okR d = true then some (.str d.shown) else Option.none
  | _ => Option.none
def rRepr (K : PySem.W.Frag) : List V → Hp → VK → Prop := fun xs H Q => ∃ (x : V) (d : PyData), xs = [x] ∧ Rp K H x d ∧ okR d = true ∧ Q (.str d.shown) H
theorem sc_repr (l : Kd) : SemC K (rRepr K) .any l dRepr := by
  intro G H vs ds d Q s B e q
  unfold dRepr at e
  split at e
  · split at e
    · rename_i h
      cases e
      obtain ⟨v, rfl, b⟩ := B.one
      exact ⟨v, _, rfl, b.all s, h, q _ G H (Ext.refl s) (.rp (.str _))⟩
    · cases e
  · cases e
theorem call_repr {X : Cx} (hG : X.A.guards = some []) (hu : X.A.units + 70 < cLine) : CallR X (.builtin "repr") (rRepr X.K) := by
  intro pins s σ H xs us Q I r h
  obtain ⟨x, d, rfl, rp, ok, q⟩ := h
  unfold okR at ok
  simp only [Bool.and_eq_true, decide_eq_true_eq] at ok
  obtain ⟨⟨pl, dp⟩, sz⟩ := ok
  have lay := plain_lay d pl
  have hsz : d.shown.length ≤ sizeLine := by
    have := shown_le d pl
    rw [sizeLine_eq]; omega
  cases r with
  | cons ru rr =>
    rename_i u us'
    cases rr
    obtain ⟨as, rd⟩ := Dp.reads I d x u (rp.dp lay) ru
    have fin : ∀ h' tk, (∀ b o, s.heap.get? b = some o → h'.get? b = some o) → ∀ t, EP X pins σ Q (.str d.shown t) { s with heap := h', toks := tk } := fun h' tk k t =>
      ⟨.str d.shown, H, I.kept (t' := tk) k, ⟨t, rfl⟩, q⟩
    cases rp with
    | non => cases ru; exact PySem.P.repr_of_none (fin _ _ (fun _ _ z => z) _)
    | bl b =>
      cases ru
      refine PySem.P.repr_of_bool ?_
      cases b <;> exact fin _ _ (fun _ _ z => z) _
    | int i =>
      obtain ⟨t, rfl⟩ := ru
      simp only [plainR, decide_eq_true_eq] at pl
      exact PySem.P.repr_of_int pl (fin _ _ (fun _ _ z => z) _)
    | str y => simp [plainR] at pl
    | scr _ => simp [plainR] at pl
    | lst h1 r1 =>
      cases ru
      exact repr_of_reads' rd (plain_show _ pl) (PyData.noDict_hsm (PyData.hasDict_of_canLay _ lay)) hG (by omega) (fun _ _ z => z) (fun h' t tk k => fin h' tk k t) hsz
    | tup h1 r1 =>
      cases ru
      exact repr_of_reads' rd (plain_show _ pl) (PyData.noDict_hsm (PyData.hasDict_of_canLay _ lay)) hG (by omega) (fun _ _ z => z) (fun h' t tk k => fin h' tk k t) hsz

/-! ### the law's def -/
def scrD (ns : List Int) : PyData := .dict [(.none, .list (ns.map PyData.int))]
section
variable {P : Program} {w : World} {mg mb : Str → Option Value}
theorem body_go {base : Heap} {CX : CXT} {x qual : Str} {st : Stmt} {f : Addr} {fd : FuncData} {N ps : List Str} {k : Nat} {A : Around} {outer : List PySem.Env} {s : Shared} {H : Hp} {args : Args} {us : List Value} {vs : List V} {Q : VK} {E : XK}
    (F : Fun K x qual st f fd) (S : FnScope N ps (defScope st)) (hl : vs.length = ps.length) (room : Room (k + 1) A) (e0 : Env0 P w K mg base A outer s H) (bd : BindsTo s fd args (ps.zip us)) (rv : Vals vs us)
    (hb : ∀ cdv : Value, Room k (A.deeper (envOfC qual (defScope st) s.heap.objs.size f cdv)) → ∃ t, PSs (cxOf CX P w K mg base N qual (defScope st) f cdv A outer s H E) (defBody st) t ∧ t { nx := fun _ H' => Q .non H', rt := Q } (L2.start N vs) H) : codeAny (model P w) A (.call (.ref f) args) (CR CX outer P w H s Q E) s := by
  obtain ⟨oc, od, kV, doc, pm, an, cdv, ct, osl, rfl, look, code⟩ := F.ex
  have inK : K.In s.heap := e0.mod.kin.keeps fun b o z => (e0.bs b o z).1
  have nolim : s.heap.NoLimit := e0.mod.nolimit.keeps fun b o z => (e0.bs b o z).1
  have kinds : ∀ y ∈ ps.zip us, (defScope st).names.lookup y.1 = some .local ∨ ((defScope st).names.lookup y.1 = some .cell ∧ ((cellsFrom (s.heap.objs.size + 1) (defScope st).names []).lookup y.1).isSome = true) := by
    rintro ⟨n, v⟩ hy
    cases S.par n (List.of_mem_zip hy).1 with
    | inl z => exact .inl z
    | inr z => exact .inr ⟨z, PySem.W.cellsFrom_some _ _ _ (.inl z)⟩
  refine codeAny_call_function room.depth (inK _ _ look) rfl S.co S.gen rfl (PySem.W.codeRec_of inK code) (bd _ _ _ _ ?_)
  refine wpAny_newFunctionEnv_cells S.kind kinds fun env he s1 made => ?_
  subst he
  refine ⟨nolim.keeps made.toInCall.keep, codeAny_func ?_⟩
  have I0 := inv_start (E := E) (CX := CX) S room.hd e0 hl rv made
  obtain ⟨t, ht, go⟩ := hb cdv (room.deeper _)
  refine wpAny_mono (ht.run [] s1 (L2.start N vs) H _ I0 go) (fun fl s' hs => ?_) fun e s' hs => hs
  cases fl with
  | brk => obtain ⟨_, _, _, z⟩ := hs; exact z.elim
  | cont => obtain ⟨_, _, _, z⟩ := hs; exact z.elim
  | next =>
    obtain ⟨σ', H', J, z⟩ := hs
    exact ⟨V.non, H', J.os, J.bare, J.base, J.hok, rfl, z⟩
  | ret u =>
    obtain ⟨v, σ', H', J, r, z⟩ := hs
    exact ⟨v, H', J.os, J.bare, J.base, J.hok, r, z⟩
theorem law_go {st : Stmt} {fa a : Addr} {fd : FuncData} {N : List Str} {k : Nat} {s₁ : Shared} {vs : List Value} {ns : List Int} {g : Gs} {x : Str}
    (inK : K.In s₁.heap) (glob : s₁.heap.Ns mainGlobals mg) (blt : s₁.heap.Ns builtinsNs mb) (bltE : ∀ x : Str, x ≠ "__name__" → mb x = bootBuiltins x) (lim : s₁.heap.NoLimit) (noG : s₁.gens = #[])
    (ha : s₁.heap.get? a = some { cls := .type "list", data := .seq vs.toArray }) (areI : IntsAre vs ns) (short : ns.length ≤ sizeLine) (room : Room (k + 1) callerA)
    (F : Fun K "law" "law" st fa fd) (S : FnScope N [x] (defScope st)) (bd : ∀ (s : Shared) (u : Value), BindsTo s fd ⟨[u], []⟩ [(x, u)])
    (hb : ∀ (base : Heap) (cdv : Value) (A : Around) (outer : List PySem.Env) (s : Shared) (H : Hp) (E : XK), K.In base → base.Ns mainGlobals mg → A.guards = some [] → Room k (A.deeper (envOfC "law" (defScope st) s.heap.objs.size fa cdv)) →
      ∃ t, PSs (cxOf CX0 P w K mg base N "law" (defScope st) fa cdv A outer s H E).nox (defBody st) t ∧ SemS K .val t g)
    (hm : run g N.length 1 [scrD ns] = some (.bool true)) :
    codeAny (model P w) callerA (.call (.ref fa) ⟨[.ref a], []⟩) (fun r s' => r = .ok (.ret (.bool true)) ∧ OldK s₁.heap s'.heap ∧ s'.os = s₁.os ∧ AllBare s'.gens) s₁ := by
  have rv := vals_ints areI
  have main : ∀ H : Hp, (∀ b, H b = Option.none ∨ ∃ o xs, H b = some (.frz o (.lst xs))) → SqL K H a (ns.map V.int) → HOk P w H s₁.heap → (∀ b, H b ≠ Option.none → b = a) → (H a ≠ Option.none → K.lookup a = Option.none) →
      codeAny (model P w) callerA (.call (.ref fa) ⟨[.ref a], []⟩) (fun r s' => r = .ok (.ret (.bool true)) ∧ OldK s₁.heap s'.heap ∧ s'.os = s₁.os ∧ AllBare s'.gens) s₁ := by
    intro H only sq hok onlyA offK
    have isList : H a ≠ Option.none → ∀ (b : Addr) (o : Obj) (es : Array DictEntry) (ep : Nat), s₁.heap.get? b = some o → o.data = .dict es ep → H b = Option.none := fun _ b o es ep e d => by
      cases q : H b with
      | none => rfl
      | some u =>
        have z := onlyA b (by rw [q]; simp)
        rw [z, ha] at e
        cases e
        cases d
    have free : ∀ (b : Addr) (o : Obj) (es : Array DictEntry) (ep : Nat), s₁.heap.get? b = some o → o.data = .dict es ep → H b = Option.none := fun b o es ep e d => by
      cases q : H b with
      | none => rfl
      | some u =>
        have z := onlyA b (by rw [q]; simp)
        subst z
        rw [isList (by rw [q]; simp) b o es ep e d] at q
        cases q
    have nsB : ∀ {b : Addr} {m : Str → Option Value}, s₁.heap.Ns b m → (hidT s₁.heap H).Ns b m := by
      rintro b m ⟨o, es, ep, e, d, r⟩
      exact ⟨o, es, ep, hidT_get e (free b o es ep e d), d, r⟩
    have kB : K.In (hidT s₁.heap H) := fun b o e => hidT_get (inK b o e) (by
      cases q : H b with
      | none => rfl
      | some u =>
        have z := onlyA b (by rw [q]; simp)
        subst z
        rw [offK (by rw [q]; simp)] at e
        cases e)
    obtain ⟨mc, l1, l2⟩ := lim
    have e0 : Env0 P w K mg (hidT s₁.heap H) callerA [] s₁ H :=
      { frames := rfl, mod := ⟨kB, nsB glob, ⟨mb, nsB blt, bltE⟩, ⟨mc, nsB l1, l2⟩⟩, bs := fun b o e => of_hidT e, bsz := Nat.le_of_eq (hidT_size _ _), funs := trivial
        frf := fun b m => absurd (show b ∈ ([] : List Addr) from m) (by simp), hok := hok, bare := .of_eq noG }
    have sq' : Rp K H (.ref a) (scrD ns) := .scr sq
    unfold run at hm
    rw [if_pos (show [scrD ns].length = 1 from rfl)] at hm
    obtain ⟨o, g1, g2⟩ := Option.bind_eq_some_iff.mp hm
    have go : ∀ t : TS, SemS K .val t g → t { nx := fun _ H' => (fun v (_ : Hp) => v = V.bl true) .non H', rt := fun v _ => v = V.bl true } (L2.start N [.ref a]) H := by
      intro t hs
      refine hs H H H H _ _ [] o _ (Ext.refl (Same.refl _)) .nil (sl_start (N := N) (.cons sq' .nil) (N.length - 1)) g1 ?_
      cases o with
      | rt d' =>
        cases g2
        intro v G' H' f' X ow F'
        cases ow with
        | val h => cases h; rfl
      | nx ρ' => cases g2
      | bk ρ' => cases g2
      | ct ρ' => cases g2
    refine codeAny_mono (body_go (CX := CX0) (E := E0) (us := [.ref a]) (vs := [V.ref a]) (Q := fun v _ => v = V.bl true) F S rfl room e0 (bd s₁ (.ref a)) (.cons rfl .nil) (fun cdv rm => by
      obtain ⟨t, ht, hs⟩ := hb _ cdv callerA [] s₁ H E0 kB (nsB glob) rfl rm
      exact ⟨t, ht.nox, go t hs⟩)) fun r s' h => ?_
    cases r with
    | error e => exact False.elim h
    | ok fl =>
      cases fl with
      | next => exact False.elim h
      | brk => exact False.elim h
      | cont => exact False.elim h
      | ret u =>
        obtain ⟨v, H', os, bare, un, hok', r', z⟩ := h
        have z' : v = .bl true := z
        subst z'
        obtain rfl : u = Value.bool true := r'
        refine ⟨rfl, OldK.of_keep fun b o e => ?_, os, bare⟩
        rcases only b with q | ⟨ob, xs, q⟩
        · exact un.keep b o e q (fun m => absurd (show b ∈ ([] : List Addr) from m) (by simp)) (by simp)
        · obtain ⟨e1, _⟩ := hok b _ q
          obtain ⟨e2, _⟩ := hok' b _ (un.frzs b ob _ q)
          rw [e] at e1
          cases e1
          exact e2
  cases hk : K.lookup a with
  | some o =>
    have e := inK a o hk
    rw [ha] at e
    cases e
    exact main (fun _ => Option.none) (fun _ => .inl rfl) (.inr ⟨_, vs.toArray, _, hk, rfl, rfl, rfl, by rw [List.size_toArray, areI.length]; exact short, by simpa using rv⟩)
      (fun b u z => by cases (show (Option.none : Option HO) = some u from z)) (fun b z => absurd rfl z) (fun z => absurd rfl z)
  | none =>
    have at_a : (upd (fun _ => Option.none) a (.frz { cls := .type "list", data := .seq vs.toArray } (.lst (ns.map V.int)))) a = some (.frz { cls := .type "list", data := .seq vs.toArray } (.lst (ns.map V.int))) := upd_same
    have off_a : ∀ b, b ≠ a → (upd (fun _ => Option.none) a (.frz { cls := .type "list", data := .seq vs.toArray } (.lst (ns.map V.int)))) b = Option.none := fun b n => upd_ne n
    refine main _ (fun b => ?_) (.inl (.inr ⟨_, at_a⟩)) (fun b u z => ?_) (fun b z => ?_) fun _ => hk
    · by_cases hb : b = a
      · subst hb; exact .inr ⟨_, _, at_a⟩
      · exact .inl (off_a b hb)
    · by_cases hb : b = a
      · subst hb
        rw [at_a] at z
        cases z
        exact ⟨ha, by rw [List.length_map]; exact short, vs, _, rv, ha⟩
      · rw [off_a b hb] at z
        cases z
    · by_cases hb : b = a
      · exact hb
      · exact absurd (off_a b hb) z
end
/-- the goal that the head leaves, by the law's def -/
theorem law_walk {l : PySem.W.OpenLaw} {n k : Nat} {q : Program} {loose : List Str} {XP : (Str → Option Value) → Heap → Prop} {YP : World → Heap → Prop} {d : DefRec} {Kp : Params → PySem.W.Frag} {st : Stmt} {N : List Str} {g : Gs} {x : Str}
    (hn : l.most = some n) (hn2 : n ≤ sizeLine) (hdf : d.params.defaults = []) (room : Room (k + 1) callerA) (S : FnScope N [x] (defScope st))
    (hY : ∀ (w : World) (h : Heap), YP w h → (Kp w.params).In h)
    (F : ∀ (w : World) (mg : Str → Option Value) (fa : Addr) (h : Heap), (Kp w.params).In h → h.Ns mainGlobals mg → mg d.name = some (.ref fa) →
      ∃ (fd : FuncData), Fun (Kp w.params) "law" "law" st fa fd ∧ (∀ (s : Shared) (u : Value), BindsTo s fd ⟨[u], []⟩ [(x, u)]) ∧
        ∀ (base : Heap) (cdv : Value) (A : Around) (outer : List PySem.Env) (s : Shared) (H : Hp) (E : XK), (Kp w.params).In base → base.Ns mainGlobals mg → A.guards = some [] → Room k (A.deeper (envOfC "law" (defScope st) s.heap.objs.size fa cdv)) →
          ∃ t, PSs (cxOf CX0 l.prog w (Kp w.params) mg base N "law" (defScope st) fa cdv A outer s H E).nox (defBody st) t ∧ SemS (Kp w.params) .val t g)
    (hm : ∀ ns : List Int, ns.length ≤ n → run g N.length 1 [scrD ns] = some (.bool true)) :
    PySem.W.WalkO q loose XP YP l.row.toRowW d [] (fun f vs => PySem.call f vs) := by
  refine Att.attach_call hn hdf fun w s₀ s₁ mg mb fa o pm cd doc a vs ns Gr Y ho hd hcd hmg hobj hints hlen hg => ?_
  have KX := hY w _ Y
  obtain ⟨fd, hF, bd, hb⟩ := F w mg fa _ KX Gr.T.g hmg
  exact law_go KX Gr.T.g Gr.T.b Gr.T.builtins Gr.T.nolimit hg hobj hints (Nat.le_trans hlen hn2) room hF S bd hb (hm ns hlen)
end DL

/-! DLs: set(a list of ints). -/
namespace DL
open PySem PySem.Spec PyProof.Rows L2
variable {K : PySem.W.Frag}
section
variable {P : Program} {w : World} {A : Around} {E : Value → Shared → Prop} {s : Shared}
abbrev set0 (w : World) : Obj := { cls := .type "set", dict := Option.none, data := .set #[] 0 (.fresh 0 0 (!w.params.followText "set-order")) }
/-- set(l), l a list of ints -/
theorem call_set_lst {l : Addr} {its : Array Value} (ns : List Int) {Q : Value → Shared → Prop} (calm : A.handled = Option.none) (isL : s.heap.IsList l its) (areI : IntsAre its.toList ns) (few : ns.length + 1 < scanBound)
    (next : ∀ (h' : Heap) (tk c : Nat), SetR w h' s.heap.objs.size (fun j => decide (j ∈ ns)) c → c ≤ ns.length → (∀ b o, s.heap.get? b = some o → h'.get? b = some o) →
      Q (.ref s.heap.objs.size) { s with heap := h', toks := tk }) : wpAny (model P w) A (call (.type "set") [.ref l]) Q E s := by
  have sz : its.size = ns.length := by
    have q := areI.length
    simpa using q
  obtain ⟨c0, tl0, mroS⟩ := F.called_set.mro
  have madeS := F.called_set.made
  have subS := F.called_set.sub
  refine wpAny_call (codeAny_of_tree ?_)
  show wpAny _ _ (callAny (.type "set") _) _ _ _
  refine wpAny_pure ⟨Code.quiet_builtin _ (by decide +kernel), codeAny_builtin F.entry_type_call ?_⟩
  rw [Around.under_plain (weight_type_call_type "set" [.ref l] []) rfl]
  have f1 := F.called_set.notType
  have f2 := F.called_set.canCreate
  have f3 := F.typeCall_set_1 (.ref l)
  repeat (any_goals (first | assumption | wp_step))
  refine codeAny_mono (code_set_led1 (.ref l) (E := E) (Q₁ := fun ob sa => ob = .ref s.heap.objs.size ∧ sa = { s with heap := s.heap.push (set0 w) }) ⟨rfl, rfl⟩) fun r sa hr => ?_
  cases r with
  | error e => exact hr
  | ok fl =>
    cases fl with
    | next => exact False.elim hr
    | brk => exact False.elim hr
    | cont => exact False.elim hr
    | ret ob =>
      obtain ⟨rfl, rfl⟩ := hr
      have atS : (s.heap.push (set0 w)).get? s.heap.objs.size = some (set0 w) := Heap.get?_push_size _ rfl
      have tyS : Shared.TypeIs { s with heap := s.heap.push (set0 w) } (.ref s.heap.objs.size) "set" := ⟨_, atS, rfl⟩
      have lk := F.called_set.init.lookup
      have bi := F.called_set.init.bind (.ref s.heap.objs.size)
      repeat (any_goals (first | assumption | wp_step))
      refine codeAny_mono (codeAny_call_builtin (R := wants (fun r sb => r = .none ∧ ∃ h' tk c, sb = { s with heap := h', toks := tk } ∧ SetR w h' s.heap.objs.size (fun j => decide (j ∈ ns)) c ∧ c ≤ ns.length ∧
          (∀ b o, s.heap.get? b = some o → h'.get? b = some o)) E) F.called_set.init.plain F.entry_set_init (check_set_init_1 tyS ?_)) fun r₂ sb hb => ?_
      · obtain ⟨ol, hol, hcl, nl, hdl⟩ := isL
        obtain ⟨ocls, odict, odata, oslots⟩ := ol
        simp only at hcl hdl
        subst hcl
        subst hdl
        have atL : (s.heap.push (set0 w)).get? l = some { cls := .type "list", dict := odict, data := .seq its nl, slots := oslots } := Heap.get?_push_of_some _ hol
        have u1 := F.sub_list_set
        have u2 := F.sub_list_frozenset
        have u3 : (Value.type "list" == Value.type "dict") = false := by decide
        have isL1 : (s.heap.push (set0 w)).IsList l its := ⟨_, atL, rfl, nl, rfl⟩
        unfold Builtin.«set.__init__» noKeywords Builtin.Frozenset.updateFrom
        generalize ePI : pyIter = PI
        wp_walk
        subst ePI
        refine wpAny_pyIter_list isL1 ?_
        refine wpAny_bind (wpAny_runValue ?_)
        have lS : l < s.heap.objs.size := Heap.lt_size hol
        have calm3 : A.in1.in1.in1.handled = Option.none := by simp [calm]
        have sz1 : (s.heap.push (set0 w)).objs.size = s.heap.objs.size + 1 := Heap.size_push ..
        have neI : l ≠ (s.heap.push (set0 w)).objs.size := by
          rw [sz1]
          exact Nat.ne_of_lt (Nat.lt_succ_of_lt lS)
        have offS : s.heap.objs.size ∉ [(s.heap.push (set0 w)).objs.size, l] := by
          rw [sz1]
          simp only [List.mem_cons, List.mem_singleton, List.not_mem_nil, or_false, not_or]
          exact ⟨Nat.ne_of_lt (Nat.lt_succ_self _), Nat.ne_of_gt lS⟩
        have vals : ∀ (i : Nat) (v : Value), its[i]? = some v → ∃ k t, ns[i]? = some k ∧ v = .int k t := fun i v hv => by
          have hi : i < ns.length := by
            rw [← sz]
            exact (Array.getElem?_eq_some_iff.mp hv).1
          obtain ⟨t, e⟩ := PyProof.Rows.IntsAre.int_at areI i v (by rw [Array.getElem?_toList]; exact hv)
          refine ⟨ns[i], t, List.getElem?_eq_getElem hi, ?_⟩
          rw [e, List.getD_eq_getElem?_getD, List.getElem?_eq_getElem hi]
          try rfl
        have atS2 : ((s.heap.push (set0 w)).push { cls := .type "list_iterator", data := .fields #[.ref l, .int 0 0] }).get? s.heap.objs.size = some (set0 w) := Heap.get?_push_of_some _ atS
        refine set_update_ints ((Walks.list calm3 _ l neI its).toS) s.heap.objs.size offS ns sz few vals (its.size - 0) 0 _ (by omega) (Nat.zero_le _) ⟨⟨_, Heap.get?_push_size _ rfl, rfl, rfl⟩, (isL1.push _)⟩ ⟨0, Nat.le_refl 0, setR_new_at atS2⟩ ?_
        intro s' c' moved hc' hS'
        obtain ⟨h', g2, d', tk', os'⟩ := s'
        have eg : g2 = s.gens := moved.gens
        have ed : d' = s.drawn := moved.drawn
        have eo : os' = s.os := moved.os
        subst eg
        subst ed
        subst eo
        show wpAny _ _ _ _ _ _
        refine wpAny_pure ?_
        show wpAny _ _ (ret Value.none) _ _ _
        rw [sz] at hc'
        refine wpAny_pure ⟨rfl, h', tk', c', rfl, hS', hc', fun b o e => ?_⟩
        have b0 : b < s.heap.objs.size := Heap.lt_size e
        have b1 : b ≠ s.heap.objs.size := Nat.ne_of_lt b0
        have b2 : b ≠ (s.heap.push (set0 w)).objs.size := by
          rw [sz1]
          exact Nat.ne_of_lt (Nat.lt_succ_of_lt b0)
        refine moved.heap b o ?_ (Heap.get?_push_of_some _ (Heap.get?_push_of_some _ e))
        simp only [List.mem_cons, List.mem_singleton, List.not_mem_nil, or_false, not_or]
        exact ⟨b1, b2⟩
      · cases r₂ with
        | error e => exact hb
        | ok fl₂ =>
          cases fl₂ with
          | next => exact False.elim hb
          | brk => exact False.elim hb
          | cont => exact False.elim hb
          | ret r =>
            obtain ⟨rfl, h', tk, c, rfl, hS', hc', hk'⟩ := hb
            repeat (any_goals (first | assumption | wp_step))
            exact next _ _ _ hS' hc' hk'
end
end DL

/-! DLg: set(a list of ints), sorted of it; stars in displays; three comparisons in a chain. -/
namespace DL
open PySem PySem.Spec PyProof.Rows L2
variable {K : PySem.W.Frag}

/-! ### rules -/
def rSetI (K : PySem.W.Frag) (w : World) : List V → Hp → VK → Prop := fun vs H Q => ∃ (a : Addr) (ns : List Int), vs = [V.ref a] ∧ SqL K H a (ns.map V.int) ∧ ns.length < 64 ∧
  ∀ (p : Addr) (c : Nat), H p = Option.none → c ≤ ns.length → Q (.ref p) (upd H p (SetO w p (fun j => decide (j ∈ ns)) c))
theorem cr_setI {X : Cx} (hc : X.calm = true) : CallR X (.type "set") (rSetI X.K X.w) := by
  intro pins s σ H vs us Q I r h
  obtain ⟨a, ns, rfl, sq, few, q⟩ := h
  obtain ⟨its, rv, pl, hz⟩ := I.list sq
  rw [Vals.ref1 r]
  have hn : H s.heap.objs.size = Option.none := I.hok.fresh (Nat.le_refl _)
  refine call_set_lst ns (I.ok.hd hc) pl.isList (by simpa using rv.ints) (by unfold scanBound; omega) fun h' tk c R le k => ?_
  exact ⟨.ref _, upd H s.heap.objs.size (SetO X.w s.heap.objs.size (fun j => decide (j ∈ ns)) c), I.laid (t' := tk) k (Nat.le_refl _) (setO_new R), rfl, q _ _ hn le⟩
/-- ints in order, each once -/
def insd (x : Int) : List Int → List Int
  | [] => [x]
  | y :: r => if x < y then x :: y :: r else if x = y then y :: r else y :: insd x r
def srd : List Int → List Int
  | [] => []
  | x :: r => insd x (srd r)
theorem mem_insd {x z : Int} : ∀ {l : List Int}, z ∈ insd x l ↔ z = x ∨ z ∈ l
  | [] => by simp [insd]
  | y :: r => by
    unfold insd
    split
    · simp
    · split
      · rename_i h; subst h; simp
      · rw [List.mem_cons, mem_insd (l := r), List.mem_cons]; grind
theorem mem_srd {z : Int} : ∀ {l : List Int}, z ∈ srd l ↔ z ∈ l
  | [] => by simp [srd]
  | y :: r => by unfold srd; rw [mem_insd, mem_srd (l := r), List.mem_cons]
theorem insd_sorted (x : Int) : ∀ l : List Int, l.Pairwise (· < ·) → (insd x l).Pairwise (· < ·)
  | [], _ => by simp [insd]
  | y :: r, h => by
    unfold insd
    obtain ⟨h1, h2⟩ := List.pairwise_cons.mp h
    split
    · refine List.pairwise_cons.mpr ⟨fun z m => ?_, h⟩
      rcases List.mem_cons.mp m with rfl | m
      · assumption
      · have := h1 z m; omega
    · split
      · exact h
      · refine List.pairwise_cons.mpr ⟨fun z m => ?_, insd_sorted x r h2⟩
        rcases mem_insd.mp m with rfl | m
        · omega
        · exact h1 z m
theorem srd_sorted : ∀ l : List Int, (srd l).Pairwise (· < ·)
  | [] => List.Pairwise.nil
  | x :: r => insd_sorted x _ (srd_sorted r)
theorem strict_unique : ∀ {l m : List Int}, l.Pairwise (· < ·) → m.Pairwise (· < ·) → (∀ z, z ∈ l ↔ z ∈ m) → l = m
  | [], [], _, _, _ => rfl
  | [], y :: m, _, _, h => by have := (h y).mpr (by simp); cases this
  | x :: l, [], _, _, h => by have := (h x).mp (by simp); cases this
  | x :: l, y :: m, h1, h2, h => by
    obtain ⟨a1, a2⟩ := List.pairwise_cons.mp h1
    obtain ⟨b1, b2⟩ := List.pairwise_cons.mp h2
    have e : x = y := by
      have p := (h x).mp (by simp)
      have q := (h y).mpr (by simp)
      rcases List.mem_cons.mp p with p | p
      · exact p
      · rcases List.mem_cons.mp q with q | q
        · exact q.symm
        · have := a1 y q; have := b1 x p; omega
    subst e
    congr 1
    refine strict_unique a2 b2 fun z => ⟨fun m' => ?_, fun m' => ?_⟩
    · rcases List.mem_cons.mp ((h z).mp (List.mem_cons_of_mem _ m')) with q | q
      · have := a1 z m'; omega
      · exact q
    · rcases List.mem_cons.mp ((h z).mpr (List.mem_cons_of_mem _ m')) with q | q
      · have := b1 z m'; omega
      · exact q
/-- sorted(set(x)) -/
def tSorted (K : PySem.W.Frag) (w : World) (t : TA) : TE := tCB (rSortedSet w) (tCons (tCB (rSetI K w) t) tNil)
def dSrd : DA
  | [.list xs] => (asInts xs).bind fun ns => if ns.length < 64 then some (.list ((srd ns).map PyData.int)) else Option.none
  | _ => Option.none
theorem sem_sortset {w : World} {t : TA} {g : Env → Option (List PyData)} (h : SemA K t .any g) : SemO K (tSorted K w t) (.lst .val) (eCB dSrd g) := by
  intro G H σ ρ fp d Q s S e q
  unfold eCB at e
  obtain ⟨ds, e1, e⟩ := Option.bind_eq_some_iff.mp e
  refine h G H σ ρ fp ds _ s S e1 fun vs G1 H1 X1 B => ?_
  unfold dSrd at e
  split at e
  · obtain ⟨ns, e2, e⟩ := Option.bind_eq_some_iff.mp e
    split at e
    · rename_i hl
      cases e
      obtain ⟨v, rfl, b⟩ := B.one
      cases asInts_eq e2
      obtain ⟨a, us, rfl, ha, rb⟩ := b.list X1.s
      have eu := BrA.ints X1.s rb
      subst eu
      refine ⟨a, ns, rfl, .inl (.inl ha), hl, fun p c hp hc => ?_⟩
      have X2 : Ext G1 H1 G1 (upd H1 p (SetO w p (fun j => decide (j ∈ ns)) c)) := Ext.own X1.s hp
      refine ⟨p, _, c, rfl, upd_same, by omega, fun ms p2 ho hm _ hp2 => ?_⟩
      have em : ms = srd ns := strict_unique ho (srd_sorted ns) fun z => by rw [hm, mem_srd]; simp
      subst em
      have X3 := X2.trans (Ext.own X2.s (o := .lst ((srd ns).map V.int)) hp2)
      refine q (.ref p2) G1 _ [p2] (X1.trans X3) (.lst upd_same (OwA.of (RpA.ints _))) (fun a m => ?_) (by simp)
      rw [List.mem_singleton] at m
      subst m
      refine ⟨?_, ?_⟩
      · cases z : G1 a with
        | none => rfl
        | some o => rw [X2.s _ _ z] at hp2; cases hp2
      · exact (X1.trans X2).h.free hp2
    · cases e
  · cases e
/-! ### [*x, y] -/
def aStar (f : Ev) (r : Env → Option (List PyData)) : Env → Option (List PyData) := fun ρ => (f ρ).bind fun x => match x with
  | .list xs => (r ρ).bind fun ys => some (xs ++ ys)
  | .tuple xs => (r ρ).bind fun ys => some (xs ++ ys)
  | _ => Option.none
theorem Br.itD {G H : Hp} (s : Same G H) {v : V} {xs : List PyData} (h : Br K G H .val v (.list xs)) : ∃ a vs, v = .ref a ∧ H a = some (.lst vs) ∧ RpA K G vs xs := by
  obtain ⟨a, vs, e, ha, r⟩ := h.list s
  exact ⟨a, vs, e, ha, BrA.val r⟩
theorem sema_star {te : TE} {t : TA} {f : Ev} {g : Env → Option (List PyData)} (h : SemE K te (.lst .val) f) (h2 : SemA K t .val g) : SemA K (StX.tStar K te t) .val (aStar f g) := by
  intro G H σ ρ fp ds Q s S e q
  unfold aStar at e
  obtain ⟨x, e1, e⟩ := Option.bind_eq_some_iff.mp e
  refine h G H σ ρ fp x _ s S e1 fun v G1 H1 X1 b => ?_
  split at e
  · obtain ⟨ys, e2, e⟩ := Option.bind_eq_some_iff.mp e
    cases e
    obtain ⟨a, vs, rfl, ha, r⟩ := b.list X1.s
    refine ⟨a, vs, rfl, .inr (.inl (.inl ha)), ?_⟩
    refine h2 G1 H1 σ ρ fp ys _ X1.s (S.mono X1.g X1.h) e2 fun us G2 H2 X2 B => ?_
    exact q _ G2 H2 (X1.trans X2) (BrA.append (BrA.mono X2.g X2.h r) B)
  · obtain ⟨ys, e2, e⟩ := Option.bind_eq_some_iff.mp e
    cases e
    obtain ⟨a, vs, rfl, ha, r⟩ := b.tuple X1.s
    refine ⟨a, vs, rfl, .inl (.inl (.inl ha)), ?_⟩
    refine h2 G1 H1 σ ρ fp ys _ X1.s (S.mono X1.g X1.h) e2 fun us G2 H2 X2 B => ?_
    exact q _ G2 H2 (X1.trans X2) (BrA.append (BrA.mono X2.g X2.h r) B)
  · cases e
/-! ### kinds of an operation's operands lowered -/
theorem Sem2.low {r : R2} {k1 k2 l1 l2 k : Kd} {op : D2} (h : Sem2 K r l1 l2 k op) (e1 : k1.le l1 = true) (e2 : k2.le l2 = true) : Sem2 K r k1 k2 k op := fun G H x y dx dy d Q s bx bY e q => h G H x y dx dy d Q s (bx.lift s e1) (bY.lift s e2) e q
end DL

/-! DLh: short names; how a def is taken from the frozen heap. -/
namespace DL
open PySem PySem.Spec PyProof.Rows L2
variable {K : PySem.W.Frag}
abbrev dAdd : D2 := d2J fun i j => .int (i + j)
abbrev dSub : D2 := d2J fun i j => .int (i - j)
abbrev dLt : D2 := d2J fun i j => .bool (decide (i < j))
abbrev dLe : D2 := d2J fun i j => .bool (decide (i ≤ j))
abbrev dGt : D2 := d2J fun i j => .bool (decide (i > j))
abbrev dGe : D2 := d2J fun i j => .bool (decide (i ≥ j))
abbrev dMul : D2 := d2I cMul fun i j => .int (i * j)
abbrev dDiv : D2 := d2I cDiv fun i j => .int (i / j)
abbrev dMod : D2 := d2I cPos fun i j => .int (i % j)
def cPow (i j : Int) : Bool := decide (0 ≤ j) && decide (j ≤ 1000000) && decide (i.natAbs < 2 ^ 64)
theorem cPow_ok (i j : Int) (h : cPow i j = true) : CPow i j := by
  unfold cPow at h
  simp only [Bool.and_eq_true, decide_eq_true_eq] at h
  exact ⟨h.1.1, h.1.2, h.2⟩
abbrev dPow : D2 := d2I cPow fun i j => .int (i ^ j.toNat)
theorem u64 {k : Nat} {A : Around} (hr : Room k A) : A.units + 64 < cLine := by have := hr.un; omega
theorem u65 {k : Nat} {A : Around} (hr : Room k A) : A.units + 65 < cLine := by have := hr.un; omega
theorem u70 {k : Nat} {A : Around} (hr : Room k A) : A.units + 70 < cLine := by have := hr.un; omega
theorem passE0 {X : Cx} : Passes CX0 X E0 := pass0
/-- a def that the module's name gives -/
structure Cal (K : PySem.W.Frag) (mg : Str → Option Value) (x : Str) (st : Stmt) (ps : List Str) where
  f : Addr
  fd : FuncData
  F : Fun K x x st f fd
  G : mg x = some (.ref f)
  B : Binds K fd ps []
def cal_mk {mg : Str → Option Value} {x : Str} {st : Stmt} {ps : List Str} {h : Heap} {f : Addr} {oc : Value} {od an : Option Addr} {osl : Array (Option Value)} {kV doc pm cdv ct : Value} (X : K.In h) (G : h.Ns mainGlobals mg) (bd : ∀ {f : Addr} {fd : FuncData}, Fun K x x st f fd → Binds K fd ps [])
    (a : PySem.W.nsIn K mainGlobals x = some (some (.ref f))) (l : K.lookup f = some ⟨oc, od, .func (PySem.W.fnOf x x (defArgs st) (defBody st) (defScope st) .none kV doc pm an cdv ct), osl⟩)
    (c : PySem.W.codeIn K cdv x = true) (k : PySem.W.keepIn K (.ref f) = true) : Cal K mg x st ps := ⟨f, _, fun_mk l c k, PySem.W.mg_of X G a, bd (fun_mk l c k)⟩
end DL

/-! DMa: what the mirrors' words do, as rules for simp; loops over what lists tell. -/
namespace DL
open PySem PySem.Spec PyProof.Rows L2
section
variable {ρ : Env} {f g h : Ev} {c d : Env → Option Bool} {x y : PyData} {k : Kd} {i j n : Nat} {op : D2} {q : DA} {as bs : Env → Option (List PyData)} {u w : Gs}
@[simp] theorem eVar_ap : eVar k i ρ = (match ρ[i]? with
  | some (some (l, d)) => if l.le k = true then some d else Option.none
  | _ => Option.none) := rfl
@[simp] theorem le_any : k.le .any = true := by cases k <;> rfl
@[simp] theorem le_val : Kd.val.le k = true := rfl
@[simp] theorem le_lv : (Kd.lst .val).le (.lst .val) = true := rfl
@[simp] theorem eC_ap : eC x ρ = some x := rfl
@[simp] theorem aNil_ap : aNil ρ = some [] := rfl
@[simp] theorem aCons_ap : aCons f as ρ = (f ρ).bind fun x => (as ρ).bind fun xs => some (x :: xs) := rfl
theorem aStar_list {xs ys : List PyData} (h1 : f ρ = some (.list xs)) (h2 : as ρ = some ys) : aStar f as ρ = some (xs ++ ys) := by simp [aStar, h1, h2]
theorem aStar_tup {xs ys : List PyData} (h1 : f ρ = some (.tuple xs)) (h2 : as ρ = some ys) : aStar f as ρ = some (xs ++ ys) := by simp [aStar, h1, h2]
@[simp] theorem dTup_ap : dTup as ρ = (as ρ).bind fun ds => if ds.length ≤ most then some (.tuple ds) else Option.none := rfl
@[simp] theorem dLst_ap : dLst as ρ = (as ρ).bind fun ds => if ds.length ≤ most then some (.list ds) else Option.none := rfl
@[simp] theorem eOp_ap : eOp op f g ρ = (f ρ).bind fun x => (g ρ).bind fun y => op x y := rfl
@[simp] theorem eNeg_ap : eNeg f ρ = (f ρ).bind fun x => match x with | .int i => some (.int (-i)) | _ => Option.none := rfl
@[simp] theorem eCB_ap : eCB q as ρ = (as ρ).bind q := rfl
@[simp] theorem d2J_ap {o : Int → Int → PyData} {i j : Int} : d2J o (.int i) (.int j) = some (o i j) := rfl
@[simp] theorem d2I_ap {cc : Int → Int → Bool} {o : Int → Int → PyData} {i j : Int} : d2I cc o (.int i) (.int j) = if cc i j = true then some (o i j) else Option.none := rfl
@[simp] theorem dIx_list {xs : List PyData} {i : Int} : dIx (.list xs) (.int i) = atI xs i := rfl
@[simp] theorem dIx_tup {xs : List PyData} {i : Int} : dIx (.tuple xs) (.int i) = atI xs i := rfl
@[simp] theorem dIx_scr {xs : List PyData} {i : Int} : dIx (.dict [(.none, .list xs)]) (.int i) = atI xs i := rfl
@[simp] theorem dLen_list {xs : List PyData} : dLen [.list xs] = some (.int xs.length) := rfl
@[simp] theorem dLen_tup {xs : List PyData} : dLen [.tuple xs] = some (.int xs.length) := rfl
@[simp] theorem dLen_scr {xs : List PyData} : dLen [.dict [(.none, .list xs)]] = some (.int xs.length) := rfl
@[simp] theorem dAbs_ap {i : Int} : dAbs [.int i] = some (.int (if i < 0 then -i else i)) := rfl
@[simp] theorem dMin2_ap {i j : Int} : dMin2 [.int i, .int j] = some (.int (if j < i then j else i)) := rfl
@[simp] theorem dMax2_ap {i j : Int} : dMax2 [.int i, .int j] = some (.int (if j > i then j else i)) := rfl
@[simp] theorem dInt_i {i : Int} : dInt [.int i] = some (.int i) := rfl
@[simp] theorem dInt_b {b : Bool} : dInt [.bool b] = some (.int (if b then 1 else 0)) := rfl
@[simp] theorem dGcd_ap {i j : Int} : dGcd [.int i, .int j] = some (.int ((Nat.gcd i.natAbs j.natAbs : Nat) : Int)) := rfl
@[simp] theorem dSum_ap {ns : List Int} : dSum [.list (ns.map PyData.int)] = some (.int ns.sum) := by simp [dSum, asInts_map]
@[simp] theorem dAll_ap {b : Bool} {ns : List Bool} : dAll b [.list (ns.map PyData.bool)] = some (.bool (if b = true then ns.any id else ns.all id)) := by simp [dAll, asBools_map]
@[simp] theorem dSorted_ap {ns : List Int} : dSorted [.list (ns.map PyData.int)] = some (.list ((srt ns).map PyData.int)) := by simp [dSorted, asInts_map]
@[simp] theorem dSrd_ap {ns : List Int} : dSrd [.list (ns.map PyData.int)] = if ns.length < 64 then some (.list ((srd ns).map PyData.int)) else Option.none := by simp [dSrd, asInts_map]
@[simp] theorem dList_l {xs : List PyData} : dList [.list xs] = some (.list xs) := rfl
@[simp] theorem dTuple_l {xs : List PyData} : dTuple [.list xs] = some (.tuple xs) := rfl
@[simp] theorem dRepr_ap {x : PyData} : dRepr [x] = if okR x = true then some (.str x.shown) else Option.none := rfl
@[simp] theorem dCat_ap {xs ys : List PyData} : dCat (.list xs) (.list ys) = if xs.length + ys.length ≤ most then some (.list (xs ++ ys)) else Option.none := rfl
@[simp] theorem dEqS_ap {x y : Str} : dEqS (.str x) (.str y) = some (.bool (decide (x = y))) := rfl
@[simp] theorem dNeS_ap {x y : Str} : dNeS (.str x) (.str y) = some (.bool (!decide (x = y))) := rfl
@[simp] theorem dEq_int {i j : Int} : dEq (.int i) (.int j) = some (.bool (decide (i = j))) := by
  unfold dEq
  rw [if_pos ⟨by rfl, by rfl⟩]
  have e : (i == j) = decide (i = j) := rfl
  simp [PyData.eqv, e]
@[simp] theorem dNe_int {i j : Int} : dNe (.int i) (.int j) = some (.bool (!decide (i = j))) := by
  unfold dNe
  rw [if_pos ⟨by rfl, by rfl⟩]
  have e : (i == j) = decide (i = j) := rfl
  simp [PyData.eqv, e]
@[simp] theorem bV_ap : bV f ρ = (f ρ).bind asB := rfl
@[simp] theorem asB_ap {b : Bool} : asB (.bool b) = some b := rfl
@[simp] theorem bAnd_ap : bAnd c d ρ = (c ρ).bind fun b => if b = true then d ρ else some false := rfl
@[simp] theorem bOr_ap : bOr c d ρ = (c ρ).bind fun b => if b = true then some true else d ρ := rfl
@[simp] theorem bNot_ap : bNot c ρ = (c ρ).bind fun b => some (!b) := rfl
@[simp] theorem bYes_ap : bYes ρ = some true := rfl
@[simp] theorem eAnd_ap : eAnd f g ρ = ((f ρ).bind asB).bind fun b => if b = true then g ρ else some (.bool false) := rfl
@[simp] theorem eOr_ap : eOr f g ρ = ((f ρ).bind asB).bind fun b => if b = true then some (.bool true) else g ρ := rfl
@[simp] theorem eNot_ap : eNot f ρ = ((f ρ).bind asB).bind fun b => some (.bool (!b)) := rfl
@[simp] theorem eIf_ap : eIf c f g ρ = (c ρ).bind fun b => if b = true then f ρ else g ρ := rfl
@[simp] theorem eChain_ap {o o' : D2} : eChain o o' f g h ρ = (f ρ).bind fun x => (g ρ).bind fun y => ((o x y).bind asB).bind fun k => if k = true then (h ρ).bind fun w => o' y w else some (.bool false) := rfl
@[simp] theorem aName_ap : aName i x ρ = if i < ρ.length then some (ρ.set i (some (.val, x))) else Option.none := rfl
@[simp] theorem asNil_ap : asNil [] ρ = some ρ := rfl
@[simp] theorem asCons_ap {a : PyData → Env → Option Env} {r : List PyData → Env → Option Env} {xs : List PyData} : asCons a r (x :: xs) ρ = (a x ρ).bind fun ρ1 => r xs ρ1 := rfl
@[simp] theorem aTup_ap {r : List PyData → Env → Option Env} {xs : List PyData} : aTup n r (.tuple xs) ρ = if xs.length = n then r xs ρ else Option.none := rfl
@[simp] theorem aLst_ap {r : List PyData → Env → Option Env} {xs : List PyData} : aLst n r (.list xs) ρ = if xs.length = n then r xs ρ else Option.none := rfl
@[simp] theorem iE_ap {s : PyData → Option (List PyData)} : iE s f ρ = (f ρ).bind s := rfl
@[simp] theorem iA_ap {s : List PyData → Option (List PyData)} : iA s as ρ = (as ρ).bind s := rfl
@[simp] theorem asL_ap {xs : List PyData} : asL (.list xs) = some xs := rfl
@[simp] theorem asT_ap {xs : List PyData} : asT (.tuple xs) = some xs := rfl
@[simp] theorem asS_l {xs : List PyData} : asS (.list xs) = some xs := rfl
@[simp] theorem asS_t {xs : List PyData} : asS (.tuple xs) = some xs := rfl
@[simp] theorem iEn_ap {xs : List PyData} : iEn [.list xs] = some (enumD 0 xs) := rfl
@[simp] theorem iZp_ap {xs ys : List PyData} : iZp [.list xs, .list ys] = some (zipD xs ys) := rfl
@[simp] theorem gNext_ap : gNext ρ = some (.nx ρ) := rfl
@[simp] theorem gNever_ap : gNever ρ = Option.none := rfl
@[simp] theorem gBrk_ap : gBrk ρ = some (.bk ρ) := rfl
@[simp] theorem gSeq_ap : gSeq u w ρ = (u ρ).bind fun o => match o with
  | .nx ρ' => w ρ'
  | o => some o := rfl
@[simp] theorem gAsg_ap {a : PyData → Env → Option Env} : gAsg a f ρ = (f ρ).bind fun d => (a d ρ).bind fun ρ' => some (.nx ρ') := rfl
@[simp] theorem gAsgO_ap : gAsgO i k f ρ = (f ρ).bind fun d => if i < ρ.length then some (.nx (ρ.set i (some (k, d)))) else Option.none := rfl
@[simp] theorem gPar_ap : gPar i j as ρ = (as ρ).bind fun ds => match ds with
  | [x, y] => if i < ρ.length ∧ j < ρ.length then some (.nx ((ρ.set i (some (.val, x))).set j (some (.val, y)))) else Option.none
  | _ => Option.none := rfl
@[simp] theorem gDrop_ap : gDrop f ρ = (f ρ).bind fun _ => some (.nx ρ) := rfl
@[simp] theorem gApp_ap : gApp i f ρ = (match ρ[i]? with
  | some (some (.lst .val, .list ds)) => (f ρ).bind fun y => if ds.length < most then some (.nx (ρ.set i (some (.lst .val, .list (ds ++ [y]))))) else Option.none
  | _ => Option.none) := rfl
@[simp] theorem gSet_ap : gSet i g f ρ = ((f ρ).bind fun y => match ρ[i]? with
  | some (some (.lst .val, .list ds)) => (g ρ).bind fun jj => match jj with
    | .int n => (ixN ds.length n).bind fun m => some (.nx (ρ.set i (some (.lst .val, .list (ds.set m y)))))
    | _ => Option.none
  | _ => Option.none) := rfl
@[simp] theorem gFrz_ap : gFrz i u ρ = (match ρ[i]? with
  | some (some (_, d)) => u (ρ.set i (some (.val, d)))
  | _ => Option.none) := rfl
@[simp] theorem gIf_ap : gIf c u w ρ = (c ρ).bind fun b => if b = true then u ρ else w ρ := rfl
@[simp] theorem gRet_ap : gRet f ρ = (f ρ).bind fun d => some (.rt d) := rfl
@[simp] theorem gRetV_ap : gRetV k i ρ = (match ρ[i]? with
  | some (some (l, d)) => if l = k then some (.rt d) else Option.none
  | _ => Option.none) := rfl
@[simp] theorem gFor_ap {s : Env → Option (List PyData)} {a : PyData → Env → Option Env} : gFor s a u ρ = (s ρ).bind fun ds => forF a u ds ρ := rfl
@[simp] theorem run_ap {m np : Nat} {ds : List PyData} : run u m np ds = if ds.length = np then (u (ent m ds)).bind fun o => match o with
  | .rt d => some d
  | .nx _ => some .none
  | _ => Option.none else Option.none := rfl
@[simp] theorem ent_nil : ent n [] = List.replicate n Option.none := rfl
@[simp] theorem ent_cons {ds : List PyData} : ent (n + 1) (x :: ds) = some (.val, x) :: ent n ds := by simp [ent]
end

@[simp] theorem le_most {n : Nat} : n ≤ most ↔ n ≤ 16777216 := Iff.rfl
@[simp] theorem lt_most {n : Nat} : n < most ↔ n < 16777216 := Iff.rfl

/-! ### loops -/
theorem for_fold {α S : Type} {a : PyData → Env → Option Env} {b : Gs} (enc : α → PyData) (f : S → α → S) (P : S → Env → Prop) : ∀ (xs : List α) (s : S) (ρ : Env),
    (∀ s ρ x, x ∈ xs → P s ρ → ∃ ρ1 ρ2, a (enc x) ρ = some ρ1 ∧ (b ρ1 = some (.nx ρ2) ∨ b ρ1 = some (.ct ρ2)) ∧ P (f s x) ρ2) → P s ρ → ∃ ρ', forF a b (xs.map enc) ρ = some (.nx ρ') ∧ P (xs.foldl f s) ρ'
  | [], s, ρ, _, p => ⟨ρ, rfl, p⟩
  | x :: xs, s, ρ, h, p => by
    obtain ⟨ρ1, ρ2, e1, e2, p2⟩ := h s ρ x (by simp) p
    obtain ⟨ρ', e3, p3⟩ := for_fold enc f P xs (f s x) ρ2 (fun s ρ y m => h s ρ y (List.mem_cons_of_mem _ m)) p2
    refine ⟨ρ', ?_, p3⟩
    rw [List.map_cons]
    unfold forF
    rcases e2 with e2 | e2 <;> simp [e1, e2, e3]
/-- .. by the index of the item -/
theorem for_ix {a : PyData → Env → Option Env} {b : Gs} (P : Nat → Env → Prop) (ds : List PyData) : ∀ (n : Nat) (ρ : Env),
    (∀ k d ρ, ds[k]? = some d → P (n + k) ρ → ∃ ρ1 ρ2, a d ρ = some ρ1 ∧ (b ρ1 = some (.nx ρ2) ∨ b ρ1 = some (.ct ρ2)) ∧ P (n + k + 1) ρ2) → P n ρ → ∃ ρ', forF a b ds ρ = some (.nx ρ') ∧ P (n + ds.length) ρ' := by
  induction ds with
  | nil => exact fun n ρ _ p => ⟨ρ, rfl, p⟩
  | cons x xs ih =>
    intro n ρ h p
    obtain ⟨ρ1, ρ2, e1, e2, p2⟩ := h 0 x ρ rfl p
    obtain ⟨ρ', e3, p3⟩ := ih (n + 1) ρ2 (fun k d ρ hd hp => by
      have := h (k + 1) d ρ (by simpa using hd)
      rw [show n + (k + 1) = n + 1 + k by omega] at this
      exact this hp) p2
    refine ⟨ρ', ?_, by rw [List.length_cons, show n + (xs.length + 1) = n + 1 + xs.length by omega]; exact p3⟩
    unfold forF
    rcases e2 with e2 | e2 <;> simp [e1, e2, e3]
theorem lcM_map {α β : Type} {a : PyData → Env → Option Env} {t : Env → Option Bool} {e : Ev} {ρw : Env} (enc : α → PyData) (enc2 : β → PyData) (p : α → Bool) (f : α → β) : ∀ xs : List α,
    (∀ x ∈ xs, ∃ ρ2, a (enc x) ρw = some ρ2 ∧ t ρ2 = some (p x) ∧ (p x = true → e ρ2 = some (enc2 (f x)))) → lcM a t e ρw (xs.map enc) = some (((xs.filter p).map f).map enc2)
  | [], _ => rfl
  | x :: xs, h => by
    obtain ⟨ρ2, e1, e2, e3⟩ := h x (by simp)
    have ih := lcM_map (a := a) (t := t) (e := e) (ρw := ρw) enc enc2 p f xs fun y m => h y (List.mem_cons_of_mem _ m)
    rw [List.map_cons]
    unfold lcM
    rw [e1]
    simp only [Option.bind_some, e2]
    cases hp : p x with
    | true => simp [e3 hp, ih, hp]
    | false => simp [ih, hp]
theorem eLc_map {α β : Type} {i : Env → Option (List PyData)} {a : PyData → Env → Option Env} {t : Env → Option Bool} {e : Ev} {vs : List Nat} {ρ : Env} (enc : α → PyData) (enc2 : β → PyData) (p : α → Bool) (f : α → β) (xs : List α) (hi : i ρ = some (xs.map enc)) (hl : xs.length ≤ most)
    (h : ∀ x ∈ xs, ∃ ρ2, a (enc x) (wipeE ρ vs) = some ρ2 ∧ t ρ2 = some (p x) ∧ (p x = true → e ρ2 = some (enc2 (f x)))) : eLc i a t e vs ρ = some (.list (((xs.filter p).map f).map enc2)) := by
  unfold eLc
  rw [hi]
  simp only [Option.bind_some, List.length_map, if_pos hl, lcM_map enc enc2 p f xs h]
theorem eLc_all {α β : Type} {i : Env → Option (List PyData)} {a : PyData → Env → Option Env} {e : Ev} {vs : List Nat} {ρ : Env} (enc : α → PyData) (enc2 : β → PyData) (f : α → β) (xs : List α) (hi : i ρ = some (xs.map enc)) (hl : xs.length ≤ most)
    (h : ∀ x ∈ xs, ∃ ρ2, a (enc x) (wipeE ρ vs) = some ρ2 ∧ e ρ2 = some (enc2 (f x))) : eLc i a bYes e vs ρ = some (.list ((xs.map f).map enc2)) := by
  rw [eLc_map enc enc2 (fun _ => true) f xs hi hl fun x m => by obtain ⟨r, a, b⟩ := h x m; exact ⟨r, a, rfl, fun _ => b⟩]
  rw [List.filter_eq_self.mpr fun _ _ => rfl]
theorem rangeD_map (lo : Int) (n : Nat) : rangeD lo n = (List.range n).map fun i => PyData.int (lo + (i : Nat)) := by
  induction n generalizing lo with
  | zero => rfl
  | succ n ih =>
    rw [List.range_succ_eq_map, List.map_cons, List.map_map]
    unfold rangeD
    rw [ih]
    congr 1
    · simp
    · refine List.map_congr_left fun i _ => ?_
      simp only [Function.comp]
      congr 1
      omega
theorem iR1_ap {n : Nat} (h : n ≤ most) : iR1 [.int (n : Int)] = some ((List.range n).map fun i => PyData.int ((i : Nat) : Int)) := by
  unfold most at h
  show (if rgB (n : Int) = true then some (rangeD 0 (n : Int).toNat) else Option.none) = _
  rw [if_pos (by unfold rgB; simp; omega), rangeD_map]
  simp
theorem iR2_ap {lo hi : Int} (h : lo.natAbs ≤ most) (h2 : hi.natAbs ≤ most) : iR2 [.int lo, .int hi] = some ((List.range (hi - lo).toNat).map fun i => PyData.int (lo + (i : Nat))) := by
  unfold most at h h2
  show (if rgB lo = true ∧ rgB hi = true then some (rangeD lo (hi - lo).toNat) else Option.none) = _
  rw [if_pos (by unfold rgB; simp; omega), rangeD_map]
theorem enumD_map (xs : List PyData) (n : Nat) : enumD n xs = (xs.zipIdx n).map fun p => PyData.tuple [.int ((p.2 : Nat) : Int), p.1] := by
  induction xs generalizing n with
  | nil => rfl
  | cons x r ih =>
    unfold enumD
    rw [List.zipIdx_cons, List.map_cons, ih]
theorem atI_get {α : Type} {xs : List α} {j : Nat} {i : Int} {x : α} (hi : i = (j : Int)) (h : xs[j]? = some x) : atI xs i = some x := by
  subst hi
  exact atI_nat h
theorem while_ind {c : Env → Option Bool} {b : Gs} {R : Env → Prop} (P : Nat → Env → Prop) (h : ∀ n ρ, P n ρ → (c ρ = some false ∧ R ρ) ∨ (c ρ = some true ∧ ∃ m ρ2, m < n ∧ b ρ = some (.nx ρ2) ∧ P m ρ2)) :
    ∀ (n : Nat) (ρ : Env), P n ρ → ∃ ρ', gWhile c b ρ = some (.nx ρ') ∧ R ρ' := by
  have go : ∀ (n : Nat) (ρ : Env), P n ρ → ∃ ρ' k, whileF c b k ρ = some (.nx ρ') ∧ R ρ' := by
    intro n
    induction n using Nat.strongRecOn with
    | _ n ih =>
      intro ρ p
      rcases h n ρ p with ⟨e, r⟩ | ⟨e, m, ρ2, hm, e2, p2⟩
      · exact ⟨ρ, 1, by unfold whileF; simp [e], r⟩
      · obtain ⟨ρ', k, e3, r⟩ := ih m hm ρ2 p2
        exact ⟨ρ', k + 1, by unfold whileF; simp [e, e2, e3], r⟩
  intro n ρ p
  obtain ⟨ρ', k, e, r⟩ := go n ρ p
  exact ⟨ρ', gWhile_of e, r⟩
@[simp] theorem atI_0 {α : Type} {x : α} {xs : List α} : atI (x :: xs) 0 = some x := atI_get (j := 0) rfl rfl
@[simp] theorem atI_1 {α : Type} {x y : α} {xs : List α} : atI (x :: y :: xs) 1 = some y := atI_get (j := 1) rfl rfl
@[simp] theorem atI_2 {α : Type} {x y z : α} {xs : List α} : atI (x :: y :: z :: xs) 2 = some z := atI_get (j := 2) rfl rfl
@[simp] theorem atI_3 {α : Type} {x y z w : α} {xs : List α} : atI (x :: y :: z :: w :: xs) 3 = some w := atI_get (j := 3) rfl rfl
end DL

/-! DMb: the numbers drawn, fractions. -/
namespace DL
open PySem PySem.Spec PyProof.Rows L2
noncomputable def b__law_draws_1 : Gs :=
 (gIf (bV (eOp dGt (eVar .any 3) (eC (.int 0))))
 (gSeq (gApp 1 (eOp dMod (eCB dInt (aCons (eVar .any 3) aNil)) (eC (.int 65536))))
 (gAsg (aName 3) (eOp dDiv (eVar .any 3) (eC (.int 65536)))))
 gNext)
noncomputable def b__law_draws_2 : Gs :=
 (gSeq (gAsg (aName 3) (eCB dAbs (aCons (eOp dIx (eVar .any 0) (eVar .any 2)) aNil)))
 (gIf (bV (eOp dGe (eVar .any 3) (eOp dPow (eC (.int 10)) (eC (.int 18)))))
 (gFor (iA iR1 (aCons (eC (.int 60)) aNil)) (aName 4) b__law_draws_1)
 (gSeq (gAsg (aName 5) (eOp dMod (eCB dInt (aCons (eOp dAdd (eOp dMul (eVar .any 3) (eC (.int 48271))) (eOp dMul (eOp dAdd (eVar .any 2) (eC (.int 1))) (eC (.int 69621)))) aNil)) (eC (.int 2147483647))))
 (gSeq (gAsg (aName 5) (eOp dMod (eCB dInt (aCons (eOp dAdd (eOp dAdd (eOp dMul (eVar .any 5) (eC (.int 16807))) (eOp dMul (eC (.int 11)) (eVar .any 2))) (eC (.int 5))) aNil)) (eC (.int 2147483629))))
 (gSeq (gApp 1 (eOp dMod (eCB dInt (aCons (eVar .any 5) aNil)) (eC (.int 65536))))
 (gApp 1 (eOp dMod (eCB dInt (aCons (eOp dDiv (eVar .any 5) (eC (.int 65536))) aNil)) (eC (.int 32768)))))))))
noncomputable def g__law_draws : Gs :=
 (gSeq (gAsgO 1 (.lst .val) (dLst aNil))
 (gSeq (gFor (iA iR1 (aCons (eCB dMin2 (aCons (eC (.int 63)) (aCons (eCB dLen (aCons (eVar .any 0) aNil)) aNil))) aNil)) (aName 2) b__law_draws_2)
 (gFrz 1 (gRet (eVar .val 1)))))
noncomputable def m__law_draws : DA := run g__law_draws 6 1
noncomputable def b__law_low_1 : Gs :=
 (gAsg (aLst 2 (asCons (aName 2) (asCons (aName 3) asNil))) (dLst (aCons (eVar .val 3) (aCons (eOp dMod (eCB dInt (aCons (eVar .any 2) aNil)) (eVar .any 3)) aNil))))
noncomputable def g__law_low : Gs :=
 (gSeq (gPar 2 3 (aCons (eCB dAbs (aCons (eVar .any 0) aNil)) (aCons (eVar .val 1) aNil)))
 (gSeq (gWhile (bV (eOp dNe (eVar .any 3) (eC (.int 0)))) b__law_low_1)
 (gRet (dTup (aCons (eOp dDiv (eVar .any 0) (eVar .any 2)) (aCons (eOp dDiv (eVar .any 1) (eVar .any 2)) aNil))))))
noncomputable def m__law_low : DA := run g__law_low 4 2
noncomputable def g__law_mix : Gs :=
 (gSeq (gAsg (aName 3) (eC (.int 0)))
 (gSeq (gIf (bV (eOp dGt (eCB dLen (aCons (eVar .any 0) aNil)) (eC (.int 0))))
 (gAsg (aName 3) (eOp dIx (eVar .val 0) (eOp dMod (eCB dInt (aCons (eVar .any 1) aNil)) (eCB dLen (aCons (eVar .any 0) aNil)))))
 gNext)
 (gSeq (gIf (bV (eOp dLt (eVar .any 1) (eCB dLen (aCons (eVar .any 0) aNil))))
 (gRet (eOp dMod (eCB dInt (aCons (eVar .any 3) aNil)) (eVar .any 2)))
 gNext)
 (gRet (eOp dMod (eCB dInt (aCons (eOp dDiv (eCB dInt (aCons (eOp dAdd (eOp dMul (eVar .any 3) (eC (.int 7919))) (eOp dMul (eVar .any 1) (eC (.int 104729)))) aNil)) (eC (.int 3))) aNil)) (eVar .any 2))))))
noncomputable def m__law_mix : DA := run g__law_mix 4 3
noncomputable def g_is_fraction : Gs :=
 (gRet (eAnd (eOp dGt (eOp dIx (eVar .any 0) (eC (.int 1))) (eC (.int 0))) (eOp dEq (eCB dGcd (aCons (eOp dIx (eVar .any 0) (eC (.int 0))) (aCons (eOp dIx (eVar .any 0) (eC (.int 1))) aNil))) (eC (.int 1)))))
noncomputable def m_is_fraction : DA := run g_is_fraction 1 1
noncomputable def g_fraction : Gs :=
 (gSeq (gIf (bV (eOp dLt (eVar .any 1) (eC (.int 0))))
 (gPar 0 1 (aCons (eNeg (eVar .any 0)) (aCons (eNeg (eVar .any 1)) aNil)))
 gNext)
 (gSeq (gAsg (aName 2) (eCB dGcd (aCons (eVar .any 0) (aCons (eVar .any 1) aNil))))
 (gRet (dTup (aCons (eOp dDiv (eVar .any 0) (eVar .any 2)) (aCons (eOp dDiv (eVar .any 1) (eVar .any 2)) aNil))))))
noncomputable def m_fraction : DA := run g_fraction 3 2
noncomputable def g_minus : Gs :=
 (gRet (eCB m_fraction (aCons (eOp dSub (eOp dMul (eOp dIx (eVar .any 0) (eC (.int 0))) (eOp dIx (eVar .any 1) (eC (.int 1)))) (eOp dMul (eOp dIx (eVar .any 1) (eC (.int 0))) (eOp dIx (eVar .any 0) (eC (.int 1))))) (aCons (eOp dMul (eOp dIx (eVar .any 0) (eC (.int 1))) (eOp dIx (eVar .any 1) (eC (.int 1)))) aNil))))
noncomputable def m_minus : DA := run g_minus 2 2
noncomputable def g_plus : Gs :=
 (gRet (eCB m_fraction (aCons (eOp dAdd (eOp dMul (eOp dIx (eVar .any 0) (eC (.int 0))) (eOp dIx (eVar .any 1) (eC (.int 1)))) (eOp dMul (eOp dIx (eVar .any 1) (eC (.int 0))) (eOp dIx (eVar .any 0) (eC (.int 1))))) (aCons (eOp dMul (eOp dIx (eVar .any 0) (eC (.int 1))) (eOp dIx (eVar .any 1) (eC (.int 1)))) aNil))))
noncomputable def m_plus : DA := run g_plus 2 2
noncomputable def g_times : Gs :=
 (gRet (eCB m_fraction (aCons (eOp dMul (eOp dIx (eVar .any 0) (eC (.int 0))) (eOp dIx (eVar .any 1) (eC (.int 0)))) (aCons (eOp dMul (eOp dIx (eVar .any 0) (eC (.int 1))) (eOp dIx (eVar .any 1) (eC (.int 1)))) aNil))))
noncomputable def m_times : DA := run g_times 2 2
noncomputable def g__law_plus : Gs :=
 (gRet (eCB m__law_low (aCons (eOp dAdd (eOp dMul (eOp dIx (eVar .any 0) (eC (.int 0))) (eOp dIx (eVar .any 1) (eC (.int 1)))) (eOp dMul (eOp dIx (eVar .any 1) (eC (.int 0))) (eOp dIx (eVar .any 0) (eC (.int 1))))) (aCons (eOp dMul (eOp dIx (eVar .any 0) (eC (.int 1))) (eOp dIx (eVar .any 1) (eC (.int 1)))) aNil))))
noncomputable def m__law_plus : DA := run g__law_plus 2 2
noncomputable def b__law_total_1 : Gs :=
 (gAsg (aName 1) (eCB m__law_plus (aCons (eVar .val 1) (aCons (eVar .val 2) aNil))))
noncomputable def g__law_total : Gs :=
 (gSeq (gAsg (aName 1) (dTup (aCons (eC (.int 0)) (aCons (eC (.int 1)) aNil))))
 (gSeq (gFor (iE asS (eVar .val 0)) (aName 2) b__law_total_1)
 (gRet (eVar .val 1))))
noncomputable def m__law_total : DA := run g__law_total 3 1
noncomputable def g__law_times : Gs :=
 (gRet (eCB m__law_low (aCons (eOp dMul (eOp dIx (eVar .any 0) (eC (.int 0))) (eOp dIx (eVar .any 1) (eC (.int 0)))) (aCons (eOp dMul (eOp dIx (eVar .any 0) (eC (.int 1))) (eOp dIx (eVar .any 1) (eC (.int 1)))) aNil))))
noncomputable def m__law_times : DA := run g__law_times 2 2
noncomputable def g__law_less : Gs :=
 (gRet (eOp dLt (eOp dMul (eOp dIx (eVar .any 0) (eC (.int 0))) (eOp dIx (eVar .any 1) (eC (.int 1)))) (eOp dMul (eOp dIx (eVar .any 1) (eC (.int 0))) (eOp dIx (eVar .any 0) (eC (.int 1))))))
noncomputable def m__law_less : DA := run g__law_less 2 2

/-! ### numbers drawn -/
abbrev lI (ns : List Int) : PyData := .list (ns.map PyData.int)
structure Drawn (ds : List Int) : Prop where
  lo : ∀ d ∈ ds, 0 ≤ d
  hi : ∀ d ∈ ds, d < 65536
  len : ds.length ≤ 4000
theorem log2_small {i : Int} {n : Nat} (h1 : i < 2 ^ n) (h2 : -(2 ^ n) < i) (hn : 0 < n) : i.natAbs.log2 < n := by
  by_cases h : i.natAbs = 0
  · rw [h]
    simpa using hn
  · rw [Nat.log2_lt h]
    have : ((i.natAbs : Nat) : Int) < ((2 ^ n : Nat) : Int) := by
      rw [Int.natCast_pow]
      simp only [Int.cast_ofNat_Int]
      omega
    omega
theorem cMul_sm {i j : Int} (n m : Nat) (hn : 0 < n) (hm : 0 < m) (h1 : i < 2 ^ n) (h2 : -(2 ^ n) < i) (h3 : j < 2 ^ m) (h4 : -(2 ^ m) < j) (h : n + m ≤ 1000000) : cMul i j = true := by
  unfold cMul
  have a := log2_small h1 h2 hn
  have b := log2_small h3 h4 hm
  simp
  omega
theorem cMul_60 {i j : Int} (h1 : i < 2 ^ 62) (h2 : -(2 ^ 62) < i) (h3 : j < 2 ^ 62) (h4 : -(2 ^ 62) < j) : cMul i j = true := cMul_sm 62 62 (by decide) (by decide) h1 h2 h3 h4 (by decide)
theorem cDiv_60 {i j : Int} (h3 : j < 2 ^ 62) (h4 : 0 < j) : cDiv i j = true := by
  have b := log2_small (n := 62) h3 (by omega) (by decide)
  unfold cDiv
  simp
  omega
theorem cPos_of {i j : Int} (h : 0 < j) : cPos i j = true := by unfold cPos; simp [h]
theorem draws_b1 {x1 j2 j4 j5 : Option (Kd × PyData)} {ds : List Int} {rest : Int} {x : PyData} (h0 : 0 ≤ rest) (hl : ds.length < most) : ∃ ds' rest', b__law_draws_1 [x1, some (.lst .val, lI ds), j2, some (.val, .int rest), j4, j5] = some (.nx [x1, some (.lst .val, lI ds'), j2, some (.val, .int rest'), j4, j5]) ∧
    0 ≤ rest' ∧ ((ds' = ds) ∨ ∃ y, ds' = ds ++ [y] ∧ 0 ≤ y ∧ y < 65536) := by
  unfold b__law_draws_1
  by_cases h : rest > 0
  · refine ⟨ds ++ [rest % 65536], rest / 65536, ?_, by omega, .inr ⟨_, rfl, by omega, by omega⟩⟩
    have n5 : ∀ i, cPos i 65536 = true := fun i => cPos_of (by decide)
    have n7 : ∀ i, cDiv i 65536 = true := fun i => cDiv_60 (by omega) (by omega)
    simp [h, hl, n5, n7]
  · exact ⟨ds, rest, by simp [h], h0, .inl rfl⟩
def drawP (ns : List Int) : Nat → Env → Prop := fun n ρ => ∃ (ds : List Int) (j2 j3 j4 j5 : Option (Kd × PyData)), ρ = [some (.val, scrD ns), some (.lst .val, lI ds), j2, j3, j4, j5] ∧ (∀ d ∈ ds, 0 ≤ d) ∧ (∀ d ∈ ds, d < 65536) ∧ ds.length ≤ 60 * n
theorem draws_ok (ns : List Int) (hl : ns.length ≤ 63) : ∃ ds, m__law_draws [scrD ns] = some (lI ds) ∧ Drawn ds := by
  have e63 : dMin2 [.int 63, .int ((ns.length : Nat) : Int)] = some (.int ((ns.length : Nat) : Int)) := by
    rw [dMin2_ap]
    congr 2
    split <;> omega
  have step : ∀ (k : Nat) (d : PyData) (ρ : Env), ((List.range ns.length).map fun i => PyData.int ((i : Nat) : Int))[k]? = some d → drawP ns (0 + k) ρ → ∃ ρ1 ρ2, aName 2 d ρ = some ρ1 ∧ (b__law_draws_2 ρ1 = some (.nx ρ2) ∨ b__law_draws_2 ρ1 = some (.ct ρ2)) ∧ drawP ns (0 + k + 1) ρ2 := by
    intro k d ρ hd hp
    obtain ⟨ds, j2, j3, j4, j5, rfl, h1, h2, h3⟩ := hp
    have hk : k < ns.length := by have := (List.getElem?_eq_some_iff.mp hd).1; simpa using this
    rw [List.getElem?_map, List.getElem?_range hk] at hd
    cases hd
    unfold b__law_draws_2
    have hx : atI (ns.map PyData.int) ((k : Nat) : Int) = some (.int ns[k]) := atI_get rfl (by simp [hk])
    have hlen : ds.length ≤ 3780 := by simp at h3; omega
    generalize hv : (if ns[k] < 0 then -ns[k] else ns[k]) = v
    have v0 : 0 ≤ v := by subst hv; split <;> omega
    have hp : cPow 10 18 = true := by decide
    by_cases hbig : v ≥ 1000000000000000000
    · obtain ⟨ρ', e1, ds', rest', j4', eρ, g1, g2, g3, g4⟩ := for_ix (b := b__law_draws_1) (a := aName 4)
        (fun n ρ => ∃ (ds' : List Int) (rest : Int) (j4' : Option (Kd × PyData)), ρ = [some (.val, scrD ns), some (.lst .val, lI ds'), some (.val, .int k), some (.val, .int rest), j4', j5] ∧ 0 ≤ rest ∧ (∀ d ∈ ds', 0 ≤ d) ∧ (∀ d ∈ ds', d < 65536) ∧ ds'.length ≤ ds.length + n)
        ((List.range 60).map fun i => PyData.int ((i : Nat) : Int)) 0 [some (.val, scrD ns), some (.lst .val, lI ds), some (.val, .int k), some (.val, .int v), j4, j5]
        (fun k d ρ hd hp => by
          obtain ⟨ds', rest, j4', rfl, q1, q2, q3, q4⟩ := hp
          have hk : k < 60 := by have := (List.getElem?_eq_some_iff.mp hd).1; simpa using this
          obtain ⟨ds2, r2, e, q5, q6⟩ := draws_b1 (x1 := some (.val, scrD ns)) (j2 := some (.val, .int _)) (j4 := some (.val, d)) (j5 := j5) (x := d) q1 (show ds'.length < most by unfold most; omega)
          refine ⟨_, _, rfl, .inl e, ds2, r2, _, rfl, q5, ?_, ?_, ?_⟩
          · rcases q6 with rfl | ⟨y, rfl, y1, y2⟩
            · exact q2
            · intro d m
              rcases List.mem_append.mp m with m | m
              · exact q2 d m
              · simp at m; omega
          · rcases q6 with rfl | ⟨y, rfl, y1, y2⟩
            · exact q3
            · intro d m
              rcases List.mem_append.mp m with m | m
              · exact q3 d m
              · simp at m; omega
          · rcases q6 with rfl | ⟨y, rfl, y1, y2⟩
            · omega
            · simp; omega) ⟨ds, v, j4, rfl, v0, h1, h2, by omega⟩
      have e60 := iR1_ap (n := 60) (by decide)
      have e60' : ((60 : Nat) : Int) = 60 := rfl
      rw [e60'] at e60
      refine ⟨_, ρ', by simp; rfl, .inl ?_, ds', _, _, _, _, eρ, g2, g3, by simp at g4; omega⟩
      simp [scrD, hx, hp, hv, hbig, e60]
      simpa [scrD, lI] using e1
    · have hk62 : ((k : Nat) : Int) < 64 := by omega
      have c1 : cMul v 48271 = true := cMul_60 (by omega) (by omega) (by omega) (by omega)
      have c2 : cMul (((k : Nat) : Int) + 1) 69621 = true := cMul_60 (by omega) (by omega) (by omega) (by omega)
      have c5 : cMul 11 ((k : Nat) : Int) = true := cMul_60 (by omega) (by omega) (by omega) (by omega)
      generalize hm1 : (v * 48271 + (((k : Nat) : Int) + 1) * 69621) % 2147483647 = m1
      have m1b : 0 ≤ m1 ∧ m1 < 2147483647 := by omega
      have c3 : cMul m1 16807 = true := cMul_60 (by omega) (by omega) (by omega) (by omega)
      generalize hm2 : (m1 * 16807 + 11 * ((k : Nat) : Int) + 5) % 2147483629 = m2
      have m2b : 0 ≤ m2 ∧ m2 < 2147483629 := by omega
      refine ⟨_, _, rfl, .inl ?_, ds ++ [m2 % 65536] ++ [m2 / 65536 % 32768], some (.val, .int ((k : Nat) : Int)), some (.val, .int v), j4, some (.val, .int m2), rfl, ?_, ?_, ?_⟩
      · have n1 : ds.length < most := by unfold most; omega
        have n2 : ds.length + 1 < most := by unfold most; omega
        have n3 : ∀ i, cPos i 2147483647 = true := fun i => cPos_of (by decide)
        have n4 : ∀ i, cPos i 2147483629 = true := fun i => cPos_of (by decide)
        have n5 : ∀ i, cPos i 65536 = true := fun i => cPos_of (by decide)
        have n6 : ∀ i, cPos i 32768 = true := fun i => cPos_of (by decide)
        have n7 : ∀ i, cDiv i 65536 = true := fun i => cDiv_60 (by omega) (by omega)
        simp [scrD, hx, hp, hv, hbig, c1, c2, c3, c5, hm1, hm2, n1, n2, n3, n4, n5, n6, n7]
      · intro d m
        simp at m
        rcases m with m | m | m
        · exact h1 d m
        · omega
        · omega
      · intro d m
        simp at m
        rcases m with m | m | m
        · exact h2 d m
        · omega
        · omega
      · simp; omega
  obtain ⟨ρ', e1, ds, j2, j3, j4, j5, eρ, h1, h2, h3⟩ := for_ix (b := b__law_draws_2) (a := aName 2) (drawP ns) ((List.range ns.length).map fun i => PyData.int ((i : Nat) : Int)) 0 [some (.val, scrD ns), some (.lst .val, lI []), Option.none, Option.none, Option.none, Option.none] step ⟨[], _, _, _, _, rfl, by simp, by simp, by simp⟩
  refine ⟨ds, ?_, h1, h2, by simp at h3; omega⟩
  unfold m__law_draws g__law_draws
  simp [scrD, -dMin2_ap, e63, iR1_ap (show ns.length ≤ most by unfold most; omega)]
  simp [scrD, lI] at e1
  rw [e1]
  simp [eρ]
def mixV (ds : List Int) (k many : Int) : Int :=
  let value := if ds.length > 0 then ds.getD (k % (ds.length : Int)).toNat 0 else 0
  if k < (ds.length : Int) then value % many else ((value * 7919 + k * 104729) / 3) % many
theorem mixV_lo (ds : List Int) (k : Int) {many : Int} (h : 0 < many) : 0 ≤ mixV ds k many := by
  unfold mixV
  simp only
  split <;> exact Int.emod_nonneg _ (by omega)
theorem mixV_hi (ds : List Int) (k : Int) {many : Int} (h : 0 < many) : mixV ds k many < many := by
  unfold mixV
  simp only
  split <;> exact Int.emod_lt_of_pos _ h
theorem mix_ok {ds : List Int} (D : Drawn ds) {k many : Int} (h0 : 0 ≤ k) (h1 : k < 2 ^ 40) (hm : 0 < many) : m__law_mix [lI ds, .int k, .int many] = some (.int (mixV ds k many)) := by
  unfold m__law_mix g__law_mix
  have n0 : cPos k (ds.length : Int) = true ↔ 0 < (ds.length : Int) := by unfold cPos; simp
  by_cases hz : ds.length = 0
  · have e : ds = [] := List.length_eq_zero_iff.mp hz
    subst e
    have hk : ¬ k < 0 := by omega
    have c1 : cMul 0 7919 = true := by decide
    have c2 : cMul k 104729 = true := cMul_60 (by omega) (by omega) (by omega) (by omega)
    have c3 : ∀ i, cDiv i 3 = true := fun i => cDiv_60 (by omega) (by omega)
    have c4 : ∀ i, cPos i many = true := fun i => cPos_of hm
    simp [lI, hk, mixV, c1, c2, c3, c4]
  · have hpos : 0 < ds.length := by omega
    have hpos' : (ds.length : Int) > 0 := by omega
    generalize hj : (k % (ds.length : Int)).toNat = j
    have jl : j < ds.length := by
      have a := Int.emod_lt_of_pos k hpos'
      have b := Int.emod_nonneg k (b := (ds.length : Int)) (by omega)
      omega
    have ej : k % (ds.length : Int) = (j : Int) := by
      have b := Int.emod_nonneg k (b := (ds.length : Int)) (by omega)
      omega
    have hx : atI (ds.map PyData.int) (k % (ds.length : Int)) = some (.int ds[j]) := atI_get ej (by simp [jl])
    have m0 := D.lo _ (List.getElem_mem jl)
    have m1 := D.hi _ (List.getElem_mem jl)
    have c0 : cPos k (ds.length : Int) = true := cPos_of hpos'
    have c1 : cMul ds[j] 7919 = true := cMul_60 (by omega) (by omega) (by omega) (by omega)
    have c2 : cMul k 104729 = true := cMul_60 (by omega) (by omega) (by omega) (by omega)
    have c3 : ∀ i, cDiv i 3 = true := fun i => cDiv_60 (by omega) (by omega)
    have c4 : ∀ i, cPos i many = true := fun i => cPos_of hm
    have gd : ds.getD j 0 = ds[j] := by simp [jl]
    by_cases hk : k < (ds.length : Int)
    · simp [lI, hpos, c0, hx, hk, mixV, hj, c4, jl]
    · simp [lI, hpos, c0, hx, hk, mixV, hj, c1, c2, c3, c4, jl]
/-! ### fractions -/
def encQ (q : Rat) : PyData := .tuple [.int q.num, .int ((q.den : Nat) : Int)]
theorem mkRat_parts (n : Int) {d : Nat} (h : 0 < d) : (mkRat n d).num = n / ((Nat.gcd n.natAbs d : Nat) : Int) ∧ (((mkRat n d).den : Nat) : Int) = (d : Int) / ((Nat.gcd n.natAbs d : Nat) : Int) := by
  have e : Rat.normalize n d (by omega) = mkRat n d := Rat.normalize_eq_mkRat (by omega)
  rw [← e, Rat.normalize_eq]
  exact ⟨rfl, by simp⟩
theorem encQ_mk (n : Int) {d : Nat} (h : 0 < d) : encQ (mkRat n d) = .tuple [.int (n / ((Nat.gcd n.natAbs d : Nat) : Int)), .int ((d : Int) / ((Nat.gcd n.natAbs d : Nat) : Int))] := by
  unfold encQ
  rw [(mkRat_parts n h).1, (mkRat_parts n h).2]
/-- a def that lowers a fraction -/
def IsFr (m : DA) : Prop := ∀ (n : Int) (d : Nat), 0 < d → d.log2 < 9000 → m [.int n, .int (d : Int)] = some (encQ (mkRat n d))
theorem log2_mono {a b : Nat} (h : a ≤ b) : a.log2 ≤ b.log2 := by
  by_cases ha : a = 0
  · subst ha; simp
  · by_cases hb : b = 0
    · omega
    · exact (Nat.le_log2 hb).mpr (Nat.le_trans (Nat.log2_self_le ha) h)
theorem cDiv_gcd {i : Int} {n : Nat} {d : Nat} (h : 0 < d) (h2 : d.log2 < 9000) : cDiv i ((Nat.gcd n d : Nat) : Int) = true := by
  have g0 : 0 < Nat.gcd n d := Nat.gcd_pos_of_pos_right _ h
  have g1 : Nat.gcd n d ≤ d := Nat.gcd_le_right _ h
  have := log2_mono g1
  unfold cDiv
  simp only [Bool.and_eq_true, decide_eq_true_eq, Int.natAbs_natCast]
  exact ⟨by omega, by omega⟩
theorem fraction_ok : IsFr m_fraction := by
  intro n d h h2
  unfold m_fraction g_fraction
  have a : ¬ ((d : Int) < 0) := by omega
  have c : ∀ i, cDiv i ((Nat.gcd n.natAbs d : Nat) : Int) = true := fun i => cDiv_gcd h h2
  rw [encQ_mk n h]
  simp [a, c]
theorem low_ok : IsFr m__law_low := by
  intro n d h h2
  unfold m__law_low g__law_low
  obtain ⟨ρ', e, r⟩ := while_ind (c := bV (eOp dNe (eVar .any 3) (eC (.int 0)))) (b := b__law_low_1) (R := fun ρ => ρ = [some (.val, .int n), some (.val, .int (d : Int)), some (.val, .int ((Nat.gcd n.natAbs d : Nat) : Int)), some (.val, .int 0)])
    (fun k ρ => ∃ a : Nat, ρ = [some (.val, .int n), some (.val, .int (d : Int)), some (.val, .int (a : Int)), some (.val, .int (k : Int))] ∧ Nat.gcd a k = Nat.gcd n.natAbs d)
    (fun k ρ hp => by
      obtain ⟨a, rfl, hg⟩ := hp
      by_cases hk : k = 0
      · subst hk
        left
        refine ⟨by simp, ?_⟩
        rw [Nat.gcd_zero_right] at hg
        subst hg
        rfl
      · right
        have kp : cPos (a : Int) (k : Int) = true := cPos_of (by omega)
        refine ⟨by simp; omega, a % k, [some (.val, .int n), some (.val, .int (d : Int)), some (.val, .int (k : Int)), some (.val, .int ((a % k : Nat) : Int))], Nat.mod_lt _ (by omega), ?_, k, rfl, ?_⟩
        · unfold b__law_low_1
          simp [kp]
        · rw [← hg, Nat.gcd_comm k, ← Nat.gcd_rec, Nat.gcd_comm]) d [some (.val, .int n), some (.val, .int (d : Int)), some (.val, .int ((n.natAbs : Nat) : Int)), some (.val, .int (d : Int))] ⟨n.natAbs, rfl, rfl⟩
  have c : ∀ i, cDiv i ((Nat.gcd n.natAbs d : Nat) : Int) = true := fun i => cDiv_gcd h h2
  have hab : (if n < 0 then -n else n) = ((n.natAbs : Nat) : Int) := by split <;> omega
  rw [encQ_mk n h]
  subst r
  simp [hab, e, c]
/-- how many digits -/
structure Sm (a : Nat) (q : Rat) : Prop where
  n : q.num.natAbs < 2 ^ a
  d : q.den < 2 ^ a
theorem Sm.mono {a b : Nat} {q : Rat} (h : Sm a q) (l : a ≤ b) : Sm b q := ⟨Nat.lt_of_lt_of_le h.n (Nat.pow_le_pow_right (by decide) l), Nat.lt_of_lt_of_le h.d (Nat.pow_le_pow_right (by decide) l)⟩
theorem mkRat_le (n : Int) {d : Nat} (h : 0 < d) : (mkRat n d).num.natAbs ≤ n.natAbs ∧ (mkRat n d).den ≤ d := by
  have e : Rat.normalize n d (by omega) = mkRat n d := Rat.normalize_eq_mkRat (by omega)
  rw [← e, Rat.normalize_eq]
  refine ⟨?_, Nat.div_le_self _ _⟩
  show (n / ((Nat.gcd n.natAbs d : Nat) : Int)).natAbs ≤ _
  have g0 : 0 < Nat.gcd n.natAbs d := Nat.gcd_pos_of_pos_right _ h
  obtain ⟨m, hm⟩ : ((Nat.gcd n.natAbs d : Nat) : Int) ∣ n := Int.ofNat_dvd_left.mpr (Nat.gcd_dvd_left _ _)
  generalize Nat.gcd n.natAbs d = g at hm g0
  rw [hm, Int.mul_ediv_cancel_left _ (by omega), Int.natAbs_mul, Int.natAbs_natCast]
  exact Nat.le_mul_of_pos_left _ g0
theorem Sm.mk' {n : Int} {d a : Nat} (h : 0 < d) (h1 : n.natAbs < 2 ^ a) (h2 : d < 2 ^ a) : Sm a (mkRat n d) := ⟨Nat.lt_of_le_of_lt (mkRat_le n h).1 h1, Nat.lt_of_le_of_lt (mkRat_le n h).2 h2⟩
theorem add_mk (p q : Rat) : p + q = mkRat (p.num * q.den + q.num * p.den) (p.den * q.den) := by rw [Rat.add_def, Rat.normalize_eq_mkRat]
theorem sub_mk (p q : Rat) : p - q = mkRat (p.num * q.den - q.num * p.den) (p.den * q.den) := by rw [Rat.sub_def, Rat.normalize_eq_mkRat]
theorem mul_mk (p q : Rat) : p * q = mkRat (p.num * q.num) (p.den * q.den) := by rw [Rat.mul_def, Rat.normalize_eq_mkRat]
theorem mul_lt_pow {x y a b : Nat} (h1 : x < 2 ^ a) (h2 : y < 2 ^ b) : x * y < 2 ^ (a + b) := by
  rw [Nat.pow_add]
  exact Nat.mul_lt_mul'' h1 h2
theorem dpos (p q : Rat) : 0 < p.den * q.den := Nat.mul_pos p.den_pos q.den_pos
theorem Sm.add {a b : Nat} {p q : Rat} (h : Sm a p) (h2 : Sm b q) : Sm (a + b + 1) (p + q) := by
  rw [add_mk]
  have m1 := mul_lt_pow h.n h2.d
  have m2 := mul_lt_pow h2.n h.d
  have m3 := mul_lt_pow h.d h2.d
  rw [Nat.add_comm b a] at m2
  have e : 2 ^ (a + b + 1) = 2 ^ (a + b) * 2 := Nat.pow_succ ..
  refine Sm.mk' (dpos p q) ?_ (by omega)
  have t := Int.natAbs_add_le (p.num * q.den) (q.num * p.den)
  rw [Int.natAbs_mul, Int.natAbs_mul, Int.natAbs_natCast, Int.natAbs_natCast] at t
  omega
theorem Sm.neg {a : Nat} {q : Rat} (h : Sm a q) : Sm a (-q) := ⟨by rw [Rat.neg_num, Int.natAbs_neg]; exact h.n, by rw [Rat.neg_den]; exact h.d⟩
theorem Sm.sub {a b : Nat} {p q : Rat} (h : Sm a p) (h2 : Sm b q) : Sm (a + b + 1) (p - q) := by
  rw [Rat.sub_eq_add_neg]
  exact h.add h2.neg
theorem Sm.mul {a b : Nat} {p q : Rat} (h : Sm a p) (h2 : Sm b q) : Sm (a + b) (p * q) := by
  rw [mul_mk]
  refine Sm.mk' (dpos p q) ?_ (mul_lt_pow h.d h2.d)
  rw [Int.natAbs_mul]
  exact mul_lt_pow h.n h2.n
theorem log2_le_of {n a : Nat} (h : n < 2 ^ a) : n.log2 ≤ a := by
  by_cases hz : n = 0
  · subst hz; simp
  · exact Nat.le_of_lt ((Nat.log2_lt hz).mpr h)
theorem cMul_pow {i j : Int} {a b : Nat} (h1 : i.natAbs < 2 ^ a) (h2 : j.natAbs < 2 ^ b) (h : a + b < 1000000) : cMul i j = true := by
  have := log2_le_of h1
  have := log2_le_of h2
  unfold cMul
  simp
  omega
/-- defs that add, subtract, multiply fractions -/
def IsPl (m : DA) : Prop := ∀ {p q : Rat}, Sm 4000 p → Sm 4000 q → m [encQ p, encQ q] = some (encQ (p + q))
def IsMi (m : DA) : Prop := ∀ {p q : Rat}, Sm 4000 p → Sm 4000 q → m [encQ p, encQ q] = some (encQ (p - q))
def IsTi (m : DA) : Prop := ∀ {p q : Rat}, Sm 4000 p → Sm 4000 q → m [encQ p, encQ q] = some (encQ (p * q))
theorem Sm.log {p q : Rat} (h : Sm 4000 p) (h2 : Sm 4000 q) : (p.den * q.den).log2 < 9000 := by
  have := log2_le_of (mul_lt_pow h.d h2.d)
  omega
theorem Sm.cnd {p q : Rat} (h : Sm 4000 p) (h2 : Sm 4000 q) : cMul p.num (q.den : Int) = true := cMul_pow h.n (b := 4000) (by simpa using h2.d) (by decide)
theorem Sm.cnn {p q : Rat} (h : Sm 4000 p) (h2 : Sm 4000 q) : cMul p.num q.num = true := cMul_pow h.n (b := 4000) h2.n (by decide)
theorem Sm.cdd {p q : Rat} (h : Sm 4000 p) (h2 : Sm 4000 q) : cMul (p.den : Int) (q.den : Int) = true := cMul_pow (a := 4000) (by simpa using h.d) (b := 4000) (by simpa using h2.d) (by decide)
theorem plus_ok : IsPl m_plus := by
  intro p q h h2
  unfold m_plus g_plus
  have e := fraction_ok (p.num * q.den + q.num * p.den) (p.den * q.den) (dpos p q) (h.log h2)
  rw [Int.natCast_mul] at e
  rw [add_mk]
  simp [encQ, e, h.cnd h2, h2.cnd h, h.cdd h2]
theorem minus_ok : IsMi m_minus := by
  intro p q h h2
  unfold m_minus g_minus
  have e := fraction_ok (p.num * q.den - q.num * p.den) (p.den * q.den) (dpos p q) (h.log h2)
  rw [Int.natCast_mul] at e
  rw [sub_mk]
  simp [encQ, e, h.cnd h2, h2.cnd h, h.cdd h2]
theorem times_ok : IsTi m_times := by
  intro p q h h2
  unfold m_times g_times
  have e := fraction_ok (p.num * q.num) (p.den * q.den) (dpos p q) (h.log h2)
  rw [Int.natCast_mul] at e
  rw [mul_mk]
  simp [encQ, e, h.cnn h2, h.cdd h2]
theorem lplus_ok : IsPl m__law_plus := by
  intro p q h h2
  unfold m__law_plus g__law_plus
  have e := low_ok (p.num * q.den + q.num * p.den) (p.den * q.den) (dpos p q) (h.log h2)
  rw [Int.natCast_mul] at e
  rw [add_mk]
  simp [encQ, e, h.cnd h2, h2.cnd h, h.cdd h2]
theorem ltimes_ok : IsTi m__law_times := by
  intro p q h h2
  unfold m__law_times g__law_times
  have e := low_ok (p.num * q.num) (p.den * q.den) (dpos p q) (h.log h2)
  rw [Int.natCast_mul] at e
  rw [mul_mk]
  simp [encQ, e, h.cnn h2, h.cdd h2]
theorem lless_ok {p q : Rat} (h : Sm 4000 p) (h2 : Sm 4000 q) : m__law_less [encQ p, encQ q] = some (.bool (decide (p < q))) := by
  unfold m__law_less g__law_less
  simp [encQ, h.cnd h2, h2.cnd h, Rat.lt_iff]
theorem is_fraction_ok (q : Rat) : m_is_fraction [encQ q] = some (.bool true) := by
  unfold m_is_fraction g_is_fraction
  have d := q.den_pos
  have r : Nat.gcd q.num.natAbs q.den = 1 := q.reduced
  simp [encQ, d, r]
/-- sums -/
def Sms (b : Nat) (qs : List Rat) : Prop := ∀ k, Sm b ((qs.take k).sum)
theorem encQ_0 : encQ 0 = .tuple [.int 0, .int 1] := rfl
theorem ltotal_ok (qs : List Rat) (h1 : ∀ q ∈ qs, Sm 4000 q) (h2 : ∀ k ≤ qs.length, Sm 4000 (qs.take k).sum) : m__law_total [.list (qs.map encQ)] = some (encQ qs.sum) := by
  unfold m__law_total g__law_total
  have step : ∀ (k : Nat) (d : PyData) (ρ : Env), (qs.map encQ)[k]? = some d → (∃ j, ρ = [some (.val, .list (qs.map encQ)), some (.val, encQ (qs.take (0 + k)).sum), j]) → ∃ ρ1 ρ2, aName 2 d ρ = some ρ1 ∧ (b__law_total_1 ρ1 = some (.nx ρ2) ∨ b__law_total_1 ρ1 = some (.ct ρ2)) ∧
      (∃ j, ρ2 = [some (.val, .list (qs.map encQ)), some (.val, encQ (qs.take (0 + k + 1)).sum), j]) := by
    rintro k d ρ hd ⟨j, rfl⟩
    rw [List.getElem?_map, Option.map_eq_some_iff] at hd
    obtain ⟨q, hq, rfl⟩ := hd
    have hk := (List.getElem?_eq_some_iff.mp hq).1
    have e := lplus_ok (h2 k (by omega)) (h1 q (List.mem_of_getElem? hq))
    refine ⟨_, [some (.val, .list (qs.map encQ)), some (.val, encQ ((qs.take k).sum + q)), some (.val, encQ q)], rfl, .inl ?_, some (.val, encQ q), ?_⟩
    · unfold b__law_total_1
      simp [e]
    · rw [Nat.zero_add, List.take_add_one, hq]
      simp [List.sum_append, Rat.add_zero]
  obtain ⟨ρ', e, j, rfl⟩ := for_ix (a := aName 2) (b := b__law_total_1) (fun n ρ => ∃ j, ρ = [some (.val, .list (qs.map encQ)), some (.val, encQ (qs.take n).sum), j]) (qs.map encQ) 0 [some (.val, .list (qs.map encQ)), some (.val, .tuple [.int 0, .int 1]), Option.none] step ⟨Option.none, by simp [encQ_0]⟩
  simp at e
  simp [e]
end DL

/-! DMc: how big data are, equality, membership; lists of places. -/
namespace DL
open PySem PySem.Spec PyProof.Rows L2
/-- d is plain, at most n deep, of at most z nodes -/
structure Siz (n m : Nat) (x : PyData) : Prop where
  p : plainR x = true
  d : x.depth ≤ n
  z : szR x ≤ m
structure SizA (n m : Nat) (xs : List PyData) : Prop where
  p : plainRA xs = true
  d : PyData.depthAll xs ≤ n
  z : szRA xs ≤ m
theorem Siz.mono {n z n' z' : Nat} {d : PyData} (h : Siz n z d) (h1 : n ≤ n') (h2 : z ≤ z') : Siz n' z' d := ⟨h.p, Nat.le_trans h.d h1, Nat.le_trans h.z h2⟩
theorem siz_int {i : Int} {a : Nat} (h : i.natAbs < 2 ^ a) (ha : a < 1920) : Siz 0 1 (.int i) := ⟨by
  have := log2_le_of h
  simp only [plainR, decide_eq_true_eq]; omega, by simp [PyData.depth], by simp [szR]⟩
theorem siz_bool {b : Bool} : Siz 0 1 (.bool b) := ⟨rfl, by simp [PyData.depth], by simp [szR]⟩
theorem siz_none : Siz 0 1 .none := ⟨rfl, by simp [PyData.depth], by simp [szR]⟩
theorem siza_nil {n : Nat} : SizA n 0 [] := ⟨rfl, by simp [PyData.depthAll], by simp [szRA]⟩
theorem siza_cons {n z z' : Nat} {d : PyData} {ds : List PyData} (h : Siz n z d) (h2 : SizA n z' ds) : SizA n (z + z') (d :: ds) := ⟨by simp [plainRA, h.p, h2.p], by
  have := h.d; have := h2.d; simp [PyData.depthAll]; omega, by have := h.z; have := h2.z; simp [szRA]; omega⟩
theorem siz_tup {n z : Nat} {ds : List PyData} (h : SizA n z ds) : Siz (n + 1) (z + 1) (.tuple ds) := ⟨by simp [plainR, h.p], by have := h.d; simp [PyData.depth]; omega, by have := h.z; simp [szR]; omega⟩
theorem siz_lst {n z : Nat} {ds : List PyData} (h : SizA n z ds) : Siz (n + 1) (z + 1) (.list ds) := ⟨by simp [plainR, h.p], by have := h.d; simp [PyData.depth]; omega, by have := h.z; simp [szR]; omega⟩
theorem siza_map {α : Type} {n z : Nat} (enc : α → PyData) : ∀ xs : List α, (∀ x ∈ xs, Siz n z (enc x)) → SizA n (xs.length * z) (xs.map enc)
  | [], _ => by simpa using siza_nil
  | x :: xs, h => by
    have a := siza_cons (h x (by simp)) (siza_map enc xs fun y m => h y (List.mem_cons_of_mem _ m))
    rw [List.length_cons, Nat.succ_mul, Nat.add_comm]
    exact a
theorem Siz.shaped {n z : Nat} {d : PyData} (h : Siz n z d) (hn : n ≤ 64) : SeqAt.shaped d = true := by
  unfold SeqAt.shaped
  rw [Bool.and_eq_true, decide_eq_true_eq]
  exact ⟨plain_lay d h.p, Nat.le_trans h.d hn⟩
theorem Siz.okR {n z : Nat} {d : PyData} (h : Siz n z d) (hn : n ≤ 60) (hz : z ≤ 8600) : okR d = true := by
  unfold DL.okR
  have := h.d
  have := h.z
  rw [Bool.and_eq_true, Bool.and_eq_true, decide_eq_true_eq, decide_eq_true_eq]
  exact ⟨⟨h.p, by omega⟩, by omega⟩
theorem siz_q {q : Rat} {a : Nat} (h : Sm a q) (ha : a < 1920) : Siz 1 3 (encQ q) := siz_tup (siza_cons (siz_int h.n ha) (siza_cons (siz_int (i := (q.den : Int)) (by simpa using h.d) ha) siza_nil))
mutual
theorem eqv_self : ∀ d : PyData, d.canLay0 = true → PyData.eqv d d = true
  | .none, _ => by simp [PyData.eqv]
  | .bool b, _ => by cases b <;> simp [PyData.eqv]
  | .int i, _ => by simp [PyData.eqv]
  | .str x, _ => by simp [PyData.eqv]
  | .list xs, h => by simp only [PyData.eqv]; exact eqvAll_self xs (by simpa [PyData.canLay0] using h)
  | .tuple xs, h => by simp only [PyData.eqv]; exact eqvAll_self xs (by simpa [PyData.canLay0] using h)
  | .dict _, h => by simp [PyData.canLay0] at h
theorem eqvAll_self : ∀ ds : List PyData, PyData.canLayAll0 ds = true → PyData.eqvAll ds ds = true
  | [], _ => by simp [PyData.eqvAll]
  | x :: r, h => by
    simp only [PyData.canLayAll0, Bool.and_eq_true] at h
    simp only [PyData.eqvAll, Bool.and_eq_true]
    exact ⟨eqv_self x h.1, eqvAll_self r h.2⟩
end
theorem dEq_of {n z n' z' : Nat} {x y : PyData} (h : Siz n z x) (h2 : Siz n' z' y) (hn : n ≤ 64) (hn' : n' ≤ 64) : dEq x y = some (.bool (PyData.eqv x y)) := by
  unfold dEq
  rw [if_pos ⟨h.shaped hn, h2.shaped hn'⟩]
theorem dNe_of {n z n' z' : Nat} {x y : PyData} (h : Siz n z x) (h2 : Siz n' z' y) (hn : n ≤ 64) (hn' : n' ≤ 64) : dNe x y = some (.bool (!PyData.eqv x y)) := by
  unfold dNe
  rw [if_pos ⟨h.shaped hn, h2.shaped hn'⟩]
theorem dNe_self {n z : Nat} {x : PyData} (h : Siz n z x) (hn : n ≤ 64) : dNe x x = some (.bool false) := by
  rw [dNe_of h h hn hn, eqv_self x (plain_lay x h.p)]
  rfl
theorem dEq_self {n z : Nat} {x : PyData} (h : Siz n z x) (hn : n ≤ 64) : dEq x x = some (.bool true) := by
  rw [dEq_of h h hn hn, eqv_self x (plain_lay x h.p)]
theorem siz_ints {ns : List Int} {a : Nat} (h : ∀ i ∈ ns, i.natAbs < 2 ^ a) (ha : a < 1920) : Siz 1 (ns.length + 1) (lI ns) := by
  have := siz_lst (siza_map (n := 0) (z := 1) PyData.int ns fun i m => siz_int (h i m) ha)
  simpa using this
theorem any_ints (ns : List Int) (i : Int) : (ns.map PyData.int).any (fun z => PyData.eqv z (.int i)) = decide (i ∈ ns) := by
  induction ns with
  | nil => rfl
  | cons x r ih =>
    rw [List.map_cons, List.any_cons, ih]
    simp only [PyData.eqv]
    have e : (x == i) = decide (x = i) := rfl
    rw [e]
    by_cases h : x = i
    · subst h; simp
    · have h' : ¬ i = x := fun z => h z.symm
      simp [h, h']
theorem lay_int (i : Int) : SeqAt.shaped (.int i) = true := by
  unfold SeqAt.shaped
  simp [PyData.canLay0, PyData.depth]
theorem lay_intsA : ∀ ns : List Int, PyData.canLayAll0 (ns.map PyData.int) = true ∧ PyData.depthAll (ns.map PyData.int) = 0
  | [] => by simp [PyData.canLayAll0, PyData.depthAll]
  | x :: r => by
    have := lay_intsA r
    simp [PyData.canLayAll0, PyData.depthAll, PyData.canLay0, PyData.depth, this]
theorem lay_ints (ns : List Int) : SeqAt.shaped (.list (ns.map PyData.int)) = true := by
  unfold SeqAt.shaped
  have := lay_intsA ns
  simp [PyData.canLay0, PyData.depth, this]
@[simp] theorem dIn_ints {ns : List Int} {i : Int} : dIn false (.int i) (.list (ns.map PyData.int)) = some (.bool (decide (i ∈ ns))) := by
  unfold dIn
  simp only
  rw [if_pos ⟨lay_int i, lay_ints ns⟩, any_ints]
  rfl
@[simp] theorem dNotIn_ints {ns : List Int} {i : Int} : dIn true (.int i) (.list (ns.map PyData.int)) = some (.bool (!decide (i ∈ ns))) := by
  unfold dIn
  simp only
  rw [if_pos ⟨lay_int i, lay_ints ns⟩, any_ints]
  rfl
/-! ### lists of places -/
abbrev nI (l : List Nat) : List Int := l.map fun x => ((x : Nat) : Int)
abbrev lN (l : List Nat) : PyData := lI (nI l)
theorem mem_nI {l : List Nat} {p : Nat} : ((p : Nat) : Int) ∈ nI l ↔ p ∈ l := by
  constructor
  · intro h
    obtain ⟨x, hx, e⟩ := List.mem_map.mp h
    have : x = p := by omega
    subst this
    exact hx
  · exact fun h => List.mem_map.mpr ⟨p, h, rfl⟩
theorem dIn_N {l : List Nat} {p : Nat} : dIn false (.int (p : Int)) (lN l) = some (.bool (decide (p ∈ l))) := by
  rw [dIn_ints]
  congr 2
  simp only [decide_eq_decide]
  exact mem_nI
theorem dNotIn_N {l : List Nat} {p : Nat} : dIn true (.int (p : Int)) (lN l) = some (.bool (!decide (p ∈ l))) := by
  rw [dNotIn_ints]
  congr 3
  simp only [decide_eq_decide]
  exact mem_nI
theorem lN_map (l : List Nat) : lN l = .list (l.map fun x : Nat => PyData.int ((x : Nat) : Int)) := by unfold lN lI nI; rw [List.map_map]; rfl
theorem siz_N {l : List Nat} (h : ∀ i ∈ l, i < 1000000) : Siz 1 (l.length + 1) (lN l) := by
  have := siz_ints (ns := nI l) (a := 20) (fun i m => by
    obtain ⟨x, hx, rfl⟩ := List.mem_map.mp m
    have := h x hx
    simp only [Int.natAbs_natCast]
    omega) (by decide)
  simpa using this
theorem sum_nI (l : List Nat) : (nI l).sum = ((l.sum : Nat) : Int) := by
  induction l with
  | nil => rfl
  | cons x r ih => simp only [nI, List.map_cons, List.sum_cons] at ih ⊢; rw [ih]; omega
end DL

namespace DL
open PySem PySem.Spec PyProof.Rows L2
noncomputable def b__law_feeder_1 : Gs :=
 (gSeq (gAsg (aName 5) (eCB m__law_low (aCons (eCB m__law_mix (aCons (eVar .val 0) (aCons (eOp dAdd (eOp dAdd (eVar .any 1) (eC (.int 3))) (eOp dMul (eC (.int 5)) (eVar .any 4))) (aCons (eC (.int 7)) aNil)))) (aCons (eOp dAdd (eC (.int 1)) (eCB m__law_mix (aCons (eVar .val 0) (aCons (eOp dAdd (eOp dAdd (eVar .any 1) (eC (.int 4))) (eOp dMul (eC (.int 5)) (eVar .any 4))) (aCons (eC (.int 3)) aNil))))) aNil))))
 (gApp 3 (dTup (aCons (eCB m__law_mix (aCons (eVar .val 0) (aCons (eOp dAdd (eOp dAdd (eVar .any 1) (eC (.int 1))) (eOp dMul (eC (.int 5)) (eVar .any 4))) (aCons (eOp dAdd (eVar .any 4) (eC (.int 1))) aNil)))) (aCons (eCB m__law_mix (aCons (eVar .val 0) (aCons (eOp dAdd (eOp dAdd (eVar .any 1) (eC (.int 2))) (eOp dMul (eC (.int 5)) (eVar .any 4))) (aCons (eC (.int 20)) aNil)))) (aCons (eVar .val 5) (aCons (eCB m__law_low (aCons (eCB m__law_mix (aCons (eVar .val 0) (aCons (eOp dAdd (eOp dAdd (eVar .any 1) (eC (.int 5))) (eOp dMul (eC (.int 5)) (eVar .any 4))) (aCons (eC (.int 6)) aNil)))) (aCons (eC (.int 2)) aNil))) aNil)))))))
noncomputable def g__law_feeder : Gs :=
 (gSeq (gAsgO 3 (.lst .val) (dLst aNil))
 (gSeq (gFor (iA iR1 (aCons (eOp dAdd (eC (.int 1)) (eCB m__law_mix (aCons (eVar .val 0) (aCons (eVar .val 1) (aCons (eVar .val 2) aNil))))) aNil)) (aName 4) b__law_feeder_1)
 (gFrz 3 (gRet (eVar .val 3)))))
noncomputable def m__law_feeder : DA := run g__law_feeder 6 3
noncomputable def g_is_section : Gs :=
 (gSeq (gAsg (aTup 4 (asCons (aName 2) (asCons (aName 3) (asCons (aName 4) (asCons (aName 5) asNil))))) (eVar .val 0))
 (gSeq (gIf (bOr (bNot (bV (eChain dLe dLe (eC (.int 0)) (eVar .any 2) (eVar .any 1)))) (bV (eOp dLt (eVar .any 3) (eC (.int 0)))))
 (gRet (eC (.bool false)))
 gNext)
 (gRet (eCB (dAll false) (aCons (eLc (iE asT (dTup (aCons (eVar .val 4) (aCons (eVar .val 5) aNil)))) (aName 6) bYes (eAnd (eCB m_is_fraction (aCons (eVar .val 6) aNil)) (eOp dGe (eOp dIx (eVar .any 6) (eC (.int 0))) (eC (.int 0)))) [6]) aNil)))))
noncomputable def m_is_section : DA := run g_is_section 7 2
noncomputable def b_check_feeder_1 : Gs :=
 (gIf (bNot (bV (eCB m_is_section (aCons (eVar .val 2) (aCons (eVar .val 1) aNil)))))
 gNever
 gNext)
noncomputable def g_check_feeder : Gs :=
 (gSeq (gIf (bNot (bV (eChain dLe dLe (eC (.int 1)) (eCB dLen (aCons (eVar .any 0) aNil)) (eC (.int 10)))))
 gNever
 gNext)
 (gFor (iA iEn (aCons (eVar .val 0) aNil)) (aTup 2 (asCons (aName 1) (asCons (aName 2) asNil))) b_check_feeder_1))
noncomputable def m_check_feeder : DA := run g_check_feeder 3 1
noncomputable def b_check_switches_1 : Gs :=
 (gIf (bOr (bNot (bV (eChain dLe dLe (eC (.int 1)) (eVar .any 3) (eCB dLen (aCons (eVar .any 0) aNil))))) (bOr (bV (eOp dEq (eOp dIx (eOp dIx (eVar .any 0) (eOp dSub (eVar .any 3) (eC (.int 1)))) (eC (.int 0))) (eC (.int 0)))) (bAnd (bV (eOp dGt (eVar .any 2) (eC (.int 0)))) (bV (eOp dGe (eOp dIx (eVar .any 1) (eOp dSub (eVar .any 2) (eC (.int 1)))) (eVar .any 3))))))
 gNever
 gNext)
noncomputable def g_check_switches : Gs :=
 (gFor (iA iEn (aCons (eVar .val 1) aNil)) (aTup 2 (asCons (aName 2) (asCons (aName 3) asNil))) b_check_switches_1)
noncomputable def m_check_switches : DA := run g_check_switches 4 2
noncomputable def g_check_place : Gs :=
 (gIf (bNot (bV (eChain dLe dLe (eC (.int 1)) (eVar .any 1) (eCB dLen (aCons (eVar .any 0) aNil)))))
 gNever
 gNext)
noncomputable def m_check_place : DA := run g_check_place 2 2
noncomputable def b_behind_of_1 : Gs :=
 (gIf (bV (eOp (dIn false) (eOp dIx (eVar .any 4) (eC (.int 0))) (eVar .any 2)))
 (gApp 2 (eOp dAdd (eVar .any 3) (eC (.int 1))))
 gNext)
noncomputable def g_behind_of : Gs :=
 (gSeq (gAsgO 2 (.lst .val) (dLst (aCons (eVar .val 1) aNil)))
 (gSeq (gFor (iA iEn (aCons (eVar .val 0) aNil)) (aTup 2 (asCons (aName 3) (asCons (aName 4) asNil))) b_behind_of_1)
 (gRetV (.lst .val) 2)))
noncomputable def m_behind_of : DA := run (gSeq g_behind_of gNever) 5 2
noncomputable def b_clearing_1 : Gs :=
 (gAsg (aName 3) (eOp dIx (eOp dIx (eVar .val 0) (eOp dSub (eVar .any 3) (eC (.int 1)))) (eC (.int 0))))
noncomputable def g_clearing : Gs :=
 (gSeq (gAsg (aName 3) (eVar .val 2))
 (gSeq (gWhile (bAnd (bV (eOp (dIn true) (eVar .any 3) (eVar .any 1))) (bV (eOp dNe (eOp dIx (eOp dIx (eVar .any 0) (eOp dSub (eVar .any 3) (eC (.int 1)))) (eC (.int 0))) (eC (.int 0))))) b_clearing_1)
 (gRet (eVar .val 3))))
noncomputable def m_clearing : DA := run g_clearing 4 3
noncomputable def g_out_for : Gs :=
 (gSeq (gDrop (eCB m_check_feeder (aCons (eVar .val 0) aNil)))
 (gSeq (gDrop (eCB m_check_switches (aCons (eVar .val 0) (aCons (eVar .val 1) aNil))))
 (gSeq (gDrop (eCB m_check_place (aCons (eVar .val 0) (aCons (eVar .val 2) aNil))))
 (gRet (eCB m_behind_of (aCons (eVar .val 0) (aCons (eCB m_clearing (aCons (eVar .val 0) (aCons (eVar .val 1) (aCons (eVar .val 2) aNil)))) aNil)))))))
noncomputable def m_out_for : DA := run (gSeq g_out_for gNever) 3 3
noncomputable def g_people_of : Gs :=
 (gRet (eCB dSum (aCons (eLc (iE asS (eCB m_behind_of (aCons (eVar .val 0) (aCons (eVar .val 1) aNil)))) (aName 2) bYes (eOp dIx (eOp dIx (eVar .val 0) (eOp dSub (eVar .any 2) (eC (.int 1)))) (eC (.int 1))) [2]) aNil)))
noncomputable def m_people_of : DA := run g_people_of 3 2
noncomputable def b_lost_of_1 : Gs :=
 (gSeq (gAsg (aName 7) (eCB m_people_of (aCons (eVar .val 0) (aCons (eCB m_clearing (aCons (eVar .val 0) (aCons (eVar .val 1) (aCons (eOp dAdd (eVar .any 3) (eC (.int 1))) aNil)))) aNil))))
 (gAsg (aName 2) (eCB m_plus (aCons (eVar .val 2) (aCons (eCB m_times (aCons (eCB m_times (aCons (eVar .val 5) (aCons (eVar .val 6) aNil))) (aCons (dTup (aCons (eVar .val 7) (aCons (eC (.int 1)) aNil))) aNil))) aNil)))))
noncomputable def g_lost_of : Gs :=
 (gSeq (gAsg (aName 2) (dTup (aCons (eC (.int 0)) (aCons (eC (.int 1)) aNil))))
 (gSeq (gFor (iA iEn (aCons (eVar .val 0) aNil)) (aTup 2 (asCons (aName 3) (asCons (aTup 4 (asCons (aName 4) (asCons (aName 4) (asCons (aName 5) (asCons (aName 6) asNil))))) asNil))) b_lost_of_1)
 (gRet (eVar .val 2))))
noncomputable def m_lost_of : DA := run g_lost_of 8 2
noncomputable def g_saved_of : Gs :=
 (gSeq (gIf (bOr (bV (eOp (dIn false) (eVar .any 2) (eVar .any 1))) (bV (eOp dEq (eOp dIx (eOp dIx (eVar .any 0) (eOp dSub (eVar .any 2) (eC (.int 1)))) (eC (.int 0))) (eC (.int 0)))))
 (gRet (dTup (aCons (eC (.int 0)) (aCons (eC (.int 1)) aNil))))
 gNext)
 (gRet (eCB m_minus (aCons (eCB m_lost_of (aCons (eVar .val 0) (aCons (eVar .val 1) aNil))) (aCons (eCB m_lost_of (aCons (eVar .val 0) (aCons (eCB dSorted (aCons (dLst (aStar (eVar (.lst .val) 1) (aCons (eVar .val 2) aNil))) aNil)) aNil))) aNil)))))
noncomputable def m_saved_of : DA := run g_saved_of 3 3
noncomputable def g_saved : Gs :=
 (gSeq (gDrop (eCB m_check_feeder (aCons (eVar .val 0) aNil)))
 (gSeq (gDrop (eCB m_check_switches (aCons (eVar .val 0) (aCons (eVar .val 1) aNil))))
 (gSeq (gDrop (eCB m_check_place (aCons (eVar .val 0) (aCons (eVar .val 2) aNil))))
 (gRet (eCB m_saved_of (aCons (eVar .val 0) (aCons (eVar .val 1) (aCons (eVar .val 2) aNil))))))))
noncomputable def m_saved : DA := run g_saved 3 3
noncomputable def g_lost_hours : Gs :=
 (gSeq (gDrop (eCB m_check_feeder (aCons (eVar .val 0) aNil)))
 (gSeq (gDrop (eCB m_check_switches (aCons (eVar .val 0) (aCons (eVar .val 1) aNil))))
 (gRet (eCB m_lost_of (aCons (eVar .val 0) (aCons (eVar .val 1) aNil))))))
noncomputable def m_lost_hours : DA := run g_lost_hours 2 2
noncomputable def b__law_way_1 : Gs :=
 (gAsg (aName 2) (eOp dCat (dLst (aCons (eOp dIx (eOp dIx (eVar .val 0) (eOp dSub (eOp dIx (eVar .any 2) (eC (.int 0))) (eC (.int 1)))) (eC (.int 0))) aNil)) (eVar (.lst .val) 2)))
noncomputable def g__law_way : Gs :=
 (gSeq (gAsg (aName 2) (dLst (aCons (eVar .val 1) aNil)))
 (gSeq (gWhile (bV (eOp dNe (eOp dIx (eOp dIx (eVar .any 0) (eOp dSub (eOp dIx (eVar .any 2) (eC (.int 0))) (eC (.int 1)))) (eC (.int 0))) (eC (.int 0)))) b__law_way_1)
 (gRet (eVar .val 2))))
noncomputable def m__law_way : DA := run g__law_way 3 2
noncomputable def g__law_out : Gs :=
 (gSeq (gAsg (aName 3) (eCB m__law_way (aCons (eVar .val 0) (aCons (eVar .val 2) aNil))))
 (gSeq (gAsg (aName 4) (eOp dIx (eLc (iE asS (eVar .val 3)) (aName 5) (bOr (bV (eOp dEq (eVar .any 5) (eOp dIx (eVar .any 3) (eC (.int 0))))) (bV (eOp (dIn false) (eVar .any 5) (eVar .any 1)))) (eVar .val 5) [5]) (eNeg (eC (.int 1)))))
 (gRet (eLc (iA iR2 (aCons (eC (.int 1)) (aCons (eOp dAdd (eCB dLen (aCons (eVar .any 0) aNil)) (eC (.int 1))) aNil))) (aName 5) (bV (eOp (dIn false) (eVar .any 4) (eCB m__law_way (aCons (eVar .val 0) (aCons (eVar .val 5) aNil))))) (eVar .val 5) [5]))))
noncomputable def m__law_out : DA := run g__law_out 6 3
noncomputable def b__law_lost_1 : Gs :=
 (gSeq (gAsg (aTup 4 (asCons (aName 4) (asCons (aName 5) (asCons (aName 6) (asCons (aName 7) asNil))))) (eOp dIx (eVar .val 0) (eOp dSub (eVar .any 3) (eC (.int 1)))))
 (gSeq (gAsg (aName 8) (eCB dSum (aCons (eLc (iE asS (eCB m__law_out (aCons (eVar .val 0) (aCons (eVar .val 1) (aCons (eVar .val 3) aNil))))) (aName 9) bYes (eOp dIx (eOp dIx (eVar .val 0) (eOp dSub (eVar .any 9) (eC (.int 1)))) (eC (.int 1))) [9]) aNil)))
 (gApp 2 (eCB m__law_times (aCons (eCB m__law_times (aCons (eVar .val 6) (aCons (eVar .val 7) aNil))) (aCons (dTup (aCons (eVar .val 8) (aCons (eC (.int 1)) aNil))) aNil))))))
noncomputable def g__law_lost : Gs :=
 (gSeq (gAsgO 2 (.lst .val) (dLst aNil))
 (gSeq (gFor (iA iR2 (aCons (eC (.int 1)) (aCons (eOp dAdd (eCB dLen (aCons (eVar .any 0) aNil)) (eC (.int 1))) aNil))) (aName 3) b__law_lost_1)
 (gFrz 2 (gRet (eCB m__law_total (aCons (eVar .val 2) aNil))))))
noncomputable def m__law_lost : DA := run g__law_lost 10 2
noncomputable def b__law_saves_1 : Gs :=
 (gSeq (gAsg (aName 7) (eCB m__law_way (aCons (eVar .val 0) (aCons (eVar .val 6) aNil))))
 (gSeq (gAsg (aName 8) (eOp dIx (eLc (iE asS (eVar .val 7)) (aName 11) (bOr (bV (eOp dEq (eVar .any 11) (eOp dIx (eVar .any 7) (eC (.int 0))))) (bV (eOp (dIn false) (eVar .any 11) (eVar .any 1)))) (eVar .val 11) [11]) (eNeg (eC (.int 1)))))
 (gIf (bAnd (bV (eOp (dIn false) (eVar .any 2) (eVar .any 7))) (bV (eOp dEq (eVar .any 8) (eVar .any 4))))
 (gSeq (gAsg (aName 9) (eLc (iA iR2 (aCons (eC (.int 1)) (aCons (eOp dAdd (eCB dLen (aCons (eVar .any 0) aNil)) (eC (.int 1))) aNil))) (aName 11) (bAnd (bV (eOp (dIn false) (eVar .any 4) (eCB m__law_way (aCons (eVar .val 0) (aCons (eVar .val 11) aNil))))) (bV (eOp (dIn true) (eVar .any 2) (eCB m__law_way (aCons (eVar .val 0) (aCons (eVar .val 11) aNil)))))) (eVar .val 11) [11]))
 (gSeq (gAsg (aName 10) (eCB dSum (aCons (eLc (iE asL (eVar .val 9)) (aName 11) bYes (eOp dIx (eOp dIx (eVar .val 0) (eOp dSub (eVar .any 11) (eC (.int 1)))) (eC (.int 1))) [11]) aNil)))
 (gApp 5 (eCB m__law_times (aCons (eCB m__law_times (aCons (eOp dIx (eOp dIx (eVar .val 0) (eOp dSub (eVar .any 6) (eC (.int 1)))) (eC (.int 2))) (aCons (eOp dIx (eOp dIx (eVar .val 0) (eOp dSub (eVar .any 6) (eC (.int 1)))) (eC (.int 3))) aNil))) (aCons (dTup (aCons (eVar .val 10) (aCons (eC (.int 1)) aNil))) aNil))))))
 gNext)))
noncomputable def g__law_saves : Gs :=
 (gSeq (gIf (bOr (bV (eOp (dIn false) (eVar .any 2) (eVar .any 1))) (bV (eOp dEq (eOp dIx (eOp dIx (eVar .any 0) (eOp dSub (eVar .any 2) (eC (.int 1)))) (eC (.int 0))) (eC (.int 0)))))
 (gRet (dTup (aCons (eC (.int 0)) (aCons (eC (.int 1)) aNil))))
 gNext)
 (gSeq (gAsg (aName 3) (eCB m__law_way (aCons (eVar .val 0) (aCons (eVar .val 2) aNil))))
 (gSeq (gAsg (aName 4) (eOp dIx (eLc (iE asS (eVar .val 3)) (aName 6) (bOr (bV (eOp dEq (eVar .any 6) (eOp dIx (eVar .any 3) (eC (.int 0))))) (bV (eOp (dIn false) (eVar .any 6) (eVar .any 1)))) (eVar .val 6) [6]) (eNeg (eC (.int 1)))))
 (gSeq (gAsgO 5 (.lst .val) (dLst aNil))
 (gSeq (gFor (iA iR2 (aCons (eC (.int 1)) (aCons (eOp dAdd (eCB dLen (aCons (eVar .any 0) aNil)) (eC (.int 1))) aNil))) (aName 6) b__law_saves_1)
 (gFrz 5 (gRet (eCB m__law_total (aCons (eVar .val 5) aNil)))))))))
noncomputable def m__law_saves : DA := run g__law_saves 12 3
noncomputable def b_law_1 : Gs :=
 (gSeq (gAsgO 10 (.lst .val) (eCB m_out_for (aCons (eVar .val 3) (aCons (eVar .val 7) (aCons (eVar .val 9) aNil)))))
 (gSeq (gIf (bV (eOp dNeS (eCB dRepr (aCons (eVar .any 10) aNil)) (eCB dRepr (aCons (eCB m__law_out (aCons (eVar .val 3) (aCons (eVar .val 7) (aCons (eVar .val 9) aNil)))) aNil))))
 (gRet (eC (.bool false)))
 gNext)
 (gSeq (gApp 10 (eNeg (eC (.int 1))))
 (gSeq (gAsg (aName 11) (eCB m_saved (aCons (eVar .val 3) (aCons (eVar .val 7) (aCons (eVar .val 9) aNil)))))
 (gSeq (gIf (bOr (bV (eOp dNeS (eCB dRepr (aCons (eVar .any 11) aNil)) (eCB dRepr (aCons (eCB m__law_saves (aCons (eVar .val 3) (aCons (eVar .val 7) (aCons (eVar .val 9) aNil)))) aNil)))) (bV (eOp dLt (eOp dIx (eVar .any 11) (eC (.int 0))) (eC (.int 0)))))
 (gRet (eC (.bool false)))
 gNext)
 (gSeq (gAsg (aName 12) (eCB dSrd (aCons (eOp dCat (eVar (.lst .val) 7) (eLc (iE asL (eVar .val 4)) (aName 14) (bAnd (bV (eOp dNe (eVar .any 14) (eVar .any 9))) (bV (eOp dEq (eCB m__law_mix (aCons (eVar .val 1) (aCons (eOp dAdd (eOp dAdd (eC (.int 360)) (eOp dMul (eC (.int 12)) (eVar .any 6))) (eVar .any 14)) (aCons (eC (.int 2)) aNil)))) (eC (.int 0))))) (eVar .val 14) [14])) aNil)))
 (gSeq (gIf (bAnd (bV (eOp (dIn true) (eVar .any 9) (eVar .any 7))) (bV (eCB m__law_less (aCons (eVar .val 11) (aCons (eCB m_saved (aCons (eVar .val 3) (aCons (eVar .val 12) (aCons (eVar .val 9) aNil)))) aNil)))))
 (gRet (eC (.bool false)))
 gNext)
 (gIf (bAnd (bV (eOp (dIn false) (eVar .any 9) (eVar .any 4))) (bV (eOp (dIn true) (eVar .any 9) (eVar .any 7))))
 (gSeq (gAsg (aName 13) (eCB m__law_lost (aCons (eVar .val 3) (aCons (eCB dSorted (aCons (eOp dCat (eVar (.lst .val) 7) (dLst (aCons (eVar .val 9) aNil))) aNil)) aNil))))
 (gIf (bV (eOp dNe (eCB m__law_plus (aCons (eVar .val 13) (aCons (eVar .val 11) aNil))) (eCB m__law_lost (aCons (eVar .val 3) (aCons (eVar .val 7) aNil)))))
 (gRet (eC (.bool false)))
 gNext))
 gNext))))))))
noncomputable def b_law_2 : Gs :=
 (gSeq (gAsg (aName 7) (eLc (iE asL (eVar .val 4)) (aName 9) (bV (eOp dEq (eCB m__law_mix (aCons (eVar .val 1) (aCons (eOp dAdd (eOp dAdd (eOp dAdd (eC (.int 200)) (eOp dMul (eC (.int 50)) (eVar .any 2))) (eOp dMul (eC (.int 12)) (eVar .any 6))) (eVar .any 9)) (aCons (eC (.int 3)) aNil)))) (eC (.int 0)))) (eVar .val 9) [9]))
 (gSeq (gAsg (aName 8) (eCB dRepr (aCons (eVar .any 7) aNil)))
 (gSeq (gIf (bV (eOp dNeS (eCB dRepr (aCons (eCB m_lost_hours (aCons (eVar .val 3) (aCons (eVar .val 7) aNil))) aNil)) (eCB dRepr (aCons (eCB m__law_lost (aCons (eVar .val 3) (aCons (eVar .val 7) aNil))) aNil))))
 (gRet (eC (.bool false)))
 gNext)
 (gSeq (gFor (iA iR2 (aCons (eC (.int 1)) (aCons (eOp dAdd (eCB dLen (aCons (eVar .any 3) aNil)) (eC (.int 1))) aNil))) (aName 9) b_law_1)
 (gIf (bOr (bV (eOp dNeS (eCB dRepr (aCons (eVar .any 7) aNil)) (eVar .any 8))) (bV (eOp dNeS (eCB dRepr (aCons (eVar .any 3) aNil)) (eVar .any 5))))
 (gRet (eC (.bool false)))
 gNext)))))
noncomputable def b_law_3 : Gs :=
 (gSeq (gAsg (aName 3) (eCB m__law_feeder (aCons (eVar .val 1) (aCons (eOp dAdd (eC (.int 10)) (eOp dMul (eC (.int 60)) (eVar .any 2))) (aCons (eC (.int 10)) aNil)))))
 (gSeq (gAsg (aName 4) (eLc (iA iR2 (aCons (eC (.int 1)) (aCons (eOp dAdd (eCB dLen (aCons (eVar .any 3) aNil)) (eC (.int 1))) aNil))) (aName 9) (bV (eOp dNe (eOp dIx (eOp dIx (eVar .any 3) (eOp dSub (eVar .any 9) (eC (.int 1)))) (eC (.int 0))) (eC (.int 0)))) (eVar .val 9) [9]))
 (gSeq (gAsg (aName 5) (eCB dRepr (aCons (eVar .any 3) aNil)))
 (gFor (iA iR1 (aCons (eC (.int 4)) aNil)) (aName 6) b_law_2))))
noncomputable def g_law : Gs :=
 (gSeq (gAsg (aName 1) (eCB m__law_draws (aCons (eVar .val 0) aNil)))
 (gSeq (gFor (iA iR1 (aCons (eC (.int 3)) aNil)) (aName 2) b_law_3)
 (gRet (eC (.bool true)))))
end DL

/-! K35a: trees told by the place above: ways, what is behind a place, the switch that clears a fault. Plain Lean. -/
namespace K35
structure Tr where
  U : Nat → Nat
  h : ∀ p, U p ≠ 0 → U p < p
variable (T : Tr)
/-- from the source to p -/
def way (p : Nat) : List Nat := if hz : T.U p = 0 then [p] else way (T.U p) ++ [p]
termination_by p
decreasing_by exact T.h p hz
def clr (S : List Nat) (p : Nat) : Nat := if hz : T.U p = 0 then p else if p ∈ S then p else clr S (T.U p)
termination_by p
decreasing_by exact T.h p hz
theorem way_0 {p : Nat} (h : T.U p = 0) : way T p = [p] := by rw [way]; simp [h]
theorem way_1 {p : Nat} (h : T.U p ≠ 0) : way T p = way T (T.U p) ++ [p] := by rw [way]; simp [h]
theorem clr_0 {S : List Nat} {p : Nat} (h : T.U p = 0) : clr T S p = p := by rw [clr]; simp [h]
theorem clr_in {S : List Nat} {p : Nat} (h : p ∈ S) : clr T S p = p := by rw [clr]; simp [h]
theorem clr_1 {S : List Nat} {p : Nat} (h : T.U p ≠ 0) (h2 : p ∉ S) : clr T S p = clr T S (T.U p) := by rw [clr]; simp [h, h2]
theorem self_way (p : Nat) : p ∈ way T p := by
  by_cases h : T.U p = 0
  · rw [way_0 T h]; simp
  · rw [way_1 T h]; simp
theorem mem_way {a p : Nat} (h : T.U p ≠ 0) : a ∈ way T p ↔ a = p ∨ a ∈ way T (T.U p) := by
  rw [way_1 T h]
  simp
  grind
theorem way_le {a : Nat} : ∀ (p : Nat), a ∈ way T p → a ≤ p := by
  intro p
  induction p using Nat.strongRecOn with
  | _ p ih =>
    by_cases h : T.U p = 0
    · rw [way_0 T h]; simp; omega
    · rw [mem_way T h]
      have := T.h p h
      rintro (rfl | m)
      · omega
      · have := ih _ this m; omega
theorem way_pos {a : Nat} : ∀ (p : Nat), 0 < p → a ∈ way T p → 0 < a := by
  intro p
  induction p using Nat.strongRecOn with
  | _ p ih =>
    intro hp
    by_cases h : T.U p = 0
    · rw [way_0 T h]; simp; omega
    · rw [mem_way T h]
      rintro (rfl | m)
      · omega
      · exact ih _ (T.h p h) (by omega) m
theorem way_trans {a b : Nat} : ∀ (p : Nat), a ∈ way T b → b ∈ way T p → a ∈ way T p := by
  intro p
  induction p using Nat.strongRecOn with
  | _ p ih =>
    intro h1 h2
    by_cases h : T.U p = 0
    · rw [way_0 T h] at h2; simp at h2; subst h2; exact h1
    · rw [mem_way T h] at h2
      rcases h2 with rfl | m
      · exact h1
      · exact (mem_way T h).mpr (.inr (ih _ (T.h p h) h1 m))
theorem clr_way (S : List Nat) : ∀ p : Nat, clr T S p ∈ way T p := by
  intro p
  induction p using Nat.strongRecOn with
  | _ p ih =>
    by_cases h : T.U p = 0
    · rw [clr_0 T h]; exact self_way T p
    · by_cases h2 : p ∈ S
      · rw [clr_in T h2]; exact self_way T p
      · rw [clr_1 T h h2]
        exact (mem_way T h).mpr (.inr (ih _ (T.h p h)))
theorem clr_le (S : List Nat) (p : Nat) : clr T S p ≤ p := way_le T p (clr_way T S p)
theorem clr_congr {S S' : List Nat} (e : ∀ x, x ∈ S ↔ x ∈ S') : ∀ p, clr T S p = clr T S' p := by
  intro p
  induction p using Nat.strongRecOn with
  | _ p ih =>
    by_cases h : T.U p = 0
    · rw [clr_0 T h, clr_0 T h]
    · by_cases h2 : p ∈ S
      · rw [clr_in T h2, clr_in T ((e p).mp h2)]
      · rw [clr_1 T h h2, clr_1 T h (fun z => h2 ((e p).mpr z)), ih _ (T.h p h)]
/-- one switch more -/
theorem clr_more {S S' : List Nat} {a : Nat} (ha : a ∉ S) (hu : T.U a ≠ 0) (e : ∀ x, x ∈ S' ↔ x ∈ S ∨ x = a) : ∀ p, clr T S' p = if a ∈ way T p ∧ clr T S p = clr T S a then a else clr T S p := by
  intro p
  induction p using Nat.strongRecOn with
  | _ p ih =>
    have la := clr_le T S a
    by_cases hpa : p = a
    · subst hpa
      rw [clr_in T ((e p).mpr (.inr rfl)), if_pos ⟨self_way T p, rfl⟩]
    · by_cases h : T.U p = 0
      · rw [clr_0 T h, clr_0 T h, if_neg]
        rintro ⟨h1, _⟩
        rw [way_0 T h] at h1
        simp at h1
        exact hpa h1.symm
      · by_cases h2 : p ∈ S
        · rw [clr_in T ((e p).mpr (.inl h2)), clr_in T h2, if_neg]
          rintro ⟨h3, h4⟩
          have := way_le T p h3
          omega
        · rw [clr_1 T h (fun z => by rcases (e p).mp z with z | z; exact h2 z; exact hpa z), clr_1 T h h2, ih _ (T.h p h)]
          have z : a ∈ way T p ↔ a ∈ way T (T.U p) := by
            rw [mem_way T h]
            exact ⟨fun q => q.resolve_left (fun z => hpa z.symm), .inr⟩
          simp only [z]
/-- with more switches fewer are cleared by the same one -/
theorem clr_same {S S' : List Nat} {a : Nat} (sub : ∀ x ∈ S, x ∈ S') : ∀ p, a ∈ way T p → clr T S' p = clr T S' a → clr T S p = clr T S a := by
  intro p
  induction p using Nat.strongRecOn with
  | _ p ih =>
    intro hw hc
    by_cases hpa : p = a
    · rw [hpa]
    · have la := clr_le T S' a
      have lp := way_le T p hw
      by_cases h : T.U p = 0
      · rw [way_0 T h] at hw
        simp at hw
        exact absurd hw.symm hpa
      · have hw' : a ∈ way T (T.U p) := ((mem_way T h).mp hw).resolve_left (fun z => hpa z.symm)
        by_cases h2 : p ∈ S'
        · rw [clr_in T h2] at hc
          omega
        · rw [clr_1 T h h2] at hc
          rw [clr_1 T h (fun z => h2 (sub p z))]
          exact ih _ (T.h p h) hw' hc
theorem clr_down {S S' : List Nat} (sub : ∀ x ∈ S, x ∈ S') : ∀ p, clr T S p ∈ way T (clr T S' p) := by
  intro p
  induction p using Nat.strongRecOn with
  | _ p ih =>
    by_cases h : T.U p = 0
    · rw [clr_0 T h, clr_0 T h]; exact self_way T p
    · by_cases h2 : p ∈ S'
      · rw [clr_in T h2]; exact clr_way T S p
      · rw [clr_1 T h h2, clr_1 T h (fun z => h2 (sub p z))]
        exact ih _ (T.h p h)
/-! ### sums -/
def pl (n : Nat) : List Nat := (List.range n).map (· + 1)
theorem mem_pl {n p : Nat} : p ∈ pl n ↔ 1 ≤ p ∧ p ≤ n := by
  unfold pl
  simp
  constructor
  · rintro ⟨a, h, rfl⟩; omega
  · rintro ⟨h1, h2⟩; exact ⟨p - 1, by omega, by omega⟩
def sm (f : Nat → Rat) (l : List Nat) : Rat := (l.map f).sum
theorem sm_nil (f : Nat → Rat) : sm f [] = 0 := rfl
theorem sm_cons (f : Nat → Rat) (x : Nat) (l : List Nat) : sm f (x :: l) = f x + sm f l := by simp [sm]
theorem sm_sub (f g : Nat → Rat) : ∀ l : List Nat, sm f l - sm g l = sm (fun x => f x - g x) l
  | [] => by simp [sm_nil]; grind
  | x :: l => by rw [sm_cons, sm_cons, sm_cons, ← sm_sub f g l]; grind
theorem sm_congr {f g : Nat → Rat} : ∀ {l : List Nat}, (∀ x ∈ l, f x = g x) → sm f l = sm g l
  | [], _ => rfl
  | x :: l, h => by rw [sm_cons, sm_cons, h x (by simp), sm_congr fun y m => h y (List.mem_cons_of_mem _ m)]
theorem sm_le {f g : Nat → Rat} : ∀ {l : List Nat}, (∀ x ∈ l, f x ≤ g x) → sm f l ≤ sm g l
  | [], _ => by simp [sm_nil]
  | x :: l, h => by
    rw [sm_cons, sm_cons]
    have a := h x (by simp)
    have b := sm_le (l := l) fun y m => h y (List.mem_cons_of_mem _ m)
    grind
theorem sm_nonneg {f : Nat → Rat} {l : List Nat} (h : ∀ x ∈ l, 0 ≤ f x) : 0 ≤ sm f l := by
  have := sm_le (f := fun _ => 0) (g := f) (l := l) h
  have e : sm (fun _ => (0 : Rat)) l = 0 := by
    clear h this
    induction l with
    | nil => rfl
    | cons x l ih => rw [sm_cons, ih]; grind
  grind
/-- the terms of some alone -/
theorem sm_filter (f : Nat → Rat) (p : Nat → Bool) : ∀ l : List Nat, sm f (l.filter p) = sm (fun x => if p x = true then f x else 0) l
  | [] => rfl
  | x :: l => by
    rw [sm_cons, List.filter_cons]
    cases hp : p x with
    | true => simp only [if_true]; rw [sm_cons, sm_filter f p l]
    | false => simp only [Bool.false_eq_true, if_false]; rw [sm_filter f p l]; grind
/-- people behind c -/
def ns (f : Nat → Nat) (l : List Nat) : Nat := (l.map f).sum
def pp (n : Nat) (ppl : Nat → Nat) (c : Nat) : Nat := ns ppl ((pl n).filter fun q => decide (c ∈ way T q))
theorem ns_filter_le {f : Nat → Nat} {p q : Nat → Bool} : ∀ l : List Nat, (∀ x ∈ l, p x = true → q x = true) → ns f (l.filter p) ≤ ns f (l.filter q)
  | [], _ => Nat.le_refl _
  | x :: l, h => by
    have ih := ns_filter_le (f := f) (p := p) (q := q) l fun y m => h y (List.mem_cons_of_mem _ m)
    have a := h x (by simp)
    unfold ns at ih ⊢
    rw [List.filter_cons, List.filter_cons]
    cases hp : p x <;> cases hq : q x <;> simp_all <;> omega
theorem ns_split {f : Nat → Nat} {p q : Nat → Bool} : ∀ l : List Nat, (∀ x ∈ l, p x = true → q x = true) → ns f (l.filter q) = ns f (l.filter p) + ns f (l.filter fun x => q x && !p x)
  | [], _ => rfl
  | x :: l, h => by
    have ih := ns_split (f := f) (p := p) (q := q) l fun y m => h y (List.mem_cons_of_mem _ m)
    have a := h x (by simp)
    unfold ns at ih ⊢
    rw [List.filter_cons, List.filter_cons, List.filter_cons]
    cases hp : p x <;> cases hq : q x <;> simp_all <;> omega
theorem pp_le {n : Nat} {ppl : Nat → Nat} {c d : Nat} (h : c ∈ way T d) : pp T n ppl d ≤ pp T n ppl c := by
  refine ns_filter_le _ fun x _ hx => ?_
  simp only [decide_eq_true_eq] at hx ⊢
  exact way_trans T x h hx
theorem pp_aside {n : Nat} {ppl : Nat → Nat} {c d : Nat} (h : c ∈ way T d) : pp T n ppl c = pp T n ppl d + ns ppl ((pl n).filter fun x => decide (c ∈ way T x) && !decide (d ∈ way T x)) := by
  refine ns_split _ fun x _ hx => ?_
  simp only [decide_eq_true_eq] at hx ⊢
  exact way_trans T x h hx
/-- hours lost -/
def lost (n : Nat) (ppl : Nat → Nat) (w : Nat → Rat) (S : List Nat) : Rat := sm (fun p => w p * ((pp T n ppl (clr T S p) : Nat) : Rat)) (pl n)
theorem lost_congr {n : Nat} {ppl : Nat → Nat} {w : Nat → Rat} {S S' : List Nat} (e : ∀ x, x ∈ S ↔ x ∈ S') : lost T n ppl w S = lost T n ppl w S' := by
  unfold lost
  refine sm_congr fun x _ => ?_
  rw [clr_congr T e]
/-- what a switch at a saves, told by the ways -/
def save (n : Nat) (ppl : Nat → Nat) (w : Nat → Rat) (S : List Nat) (a : Nat) : Rat :=
  sm (fun p => w p * ((ns ppl ((pl n).filter fun x => decide (clr T S a ∈ way T x) && !decide (a ∈ way T x)) : Nat) : Rat)) ((pl n).filter fun p => decide (a ∈ way T p) && decide (clr T S p = clr T S a))
theorem save_lost {n : Nat} {ppl : Nat → Nat} {w : Nat → Rat} {S S' : List Nat} {a : Nat} (ha : a ∉ S) (hu : T.U a ≠ 0) (e : ∀ x, x ∈ S' ↔ x ∈ S ∨ x = a) : lost T n ppl w S - lost T n ppl w S' = save T n ppl w S a := by
  unfold lost save
  rw [sm_sub, sm_filter]
  refine sm_congr fun p _ => ?_
  rw [clr_more T ha hu e p]
  by_cases h : a ∈ way T p ∧ clr T S p = clr T S a
  · rw [if_pos h, if_pos (by simp [h.1, h.2]), h.2, pp_aside T (clr_way T S a), Rat.natCast_add]
    grind
  · rw [if_neg h, if_neg (by simpa using h)]
    grind
theorem cast_le {a b : Nat} (h : a ≤ b) : ((a : Nat) : Rat) ≤ (b : Rat) := by
  obtain ⟨c, rfl⟩ := Nat.exists_eq_add_of_le h
  rw [Rat.natCast_add]
  have : (0 : Rat) ≤ (c : Rat) := Rat.natCast_nonneg
  grind
theorem save_nonneg {n : Nat} {ppl : Nat → Nat} {w : Nat → Rat} {S : List Nat} {a : Nat} (hw : ∀ p, 0 ≤ w p) : 0 ≤ save T n ppl w S a := by
  unfold save
  refine sm_nonneg fun p _ => ?_
  exact Rat.mul_nonneg (hw p) Rat.natCast_nonneg
theorem save_mono {n : Nat} {ppl : Nat → Nat} {w : Nat → Rat} {S S' : List Nat} {a : Nat} (hw : ∀ p, 0 ≤ w p) (sub : ∀ x ∈ S, x ∈ S') : save T n ppl w S' a ≤ save T n ppl w S a := by
  unfold save
  rw [sm_filter, sm_filter]
  refine sm_le fun p _ => ?_
  by_cases h : a ∈ way T p ∧ clr T S' p = clr T S' a
  · rw [if_pos (by simp [h.1, h.2]), if_pos (by simp [h.1, clr_same T sub p h.1 h.2])]
    refine Rat.mul_le_mul_of_nonneg_left (cast_le (ns_filter_le _ fun x _ hx => ?_)) (hw p)
    simp only [Bool.and_eq_true, decide_eq_true_eq, Bool.not_eq_true'] at hx ⊢
    exact ⟨way_trans T x (clr_down T sub a) hx.1, hx.2⟩
  · rw [if_neg (by simpa using h)]
    split
    · exact Rat.mul_nonneg (hw p) Rat.natCast_nonneg
    · exact Rat.le_refl
end K35

/-! K35b: what the mirrors of k35's defs give. -/
namespace DL
open PySem PySem.Spec PyProof.Rows L2 K35
structure Sec where
  up : Nat
  ppl : Nat
  w1 : Rat
  w2 : Rat
instance : Inhabited Sec := ⟨⟨0, 0, 0, 0⟩⟩
def encS (s : Sec) : PyData := .tuple [.int (s.up : Int), .int (s.ppl : Int), encQ s.w1, encQ s.w2]
abbrev encF (F : List Sec) : PyData := .list (F.map encS)
structure OkS (s : Sec) : Prop where
  ppl : s.ppl < 20
  w1 : 0 ≤ s.w1
  w2 : 0 ≤ s.w2
  s1 : Sm 3 s.w1
  s2 : Sm 3 s.w2
structure OkF (F : List Sec) : Prop where
  lo : 1 ≤ F.length
  hi : F.length ≤ 10
  up : ∀ (t : Nat) (s : Sec), F[t]? = some s → s.up ≤ t
  s : ∀ s ∈ F, OkS s
def sec (F : List Sec) (p : Nat) : Sec := F.getD (p - 1) default
def tr (F : List Sec) : Tr where
  U p := if (sec F p).up < p then (sec F p).up else 0
  h p h := by
    split at h
    · rename_i z
      rw [if_pos z]
      exact z
    · exact absurd rfl h
section
variable {F : List Sec} {p : Nat}
theorem sec_get (h1 : 1 ≤ p) (h2 : p ≤ F.length) : F[p - 1]? = some (sec F p) := by
  unfold sec
  rw [List.getD_eq_getElem?_getD, List.getElem?_eq_getElem (by omega)]
  rfl
theorem sec_mem (h1 : 1 ≤ p) (h2 : p ≤ F.length) : sec F p ∈ F := List.mem_of_getElem? (sec_get h1 h2)
theorem U_eq (O : OkF F) (h1 : 1 ≤ p) (h2 : p ≤ F.length) : (tr F).U p = (sec F p).up := by
  have := O.up _ _ (sec_get h1 h2)
  show (if (sec F p).up < p then (sec F p).up else 0) = _
  rw [if_pos (by omega)]
theorem at_p (h1 : 1 ≤ p) (h2 : p ≤ F.length) : atI (F.map encS) ((p : Int) - 1) = some (encS (sec F p)) := atI_get (j := p - 1) (by omega) (by rw [List.getElem?_map, sec_get h1 h2]; rfl)
theorem at_q (h2 : p < F.length) : atI (F.map encS) (p : Int) = some (encS (sec F (p + 1))) := atI_get (j := p) rfl (by rw [List.getElem?_map]; have := sec_get (F := F) (p := p + 1) (by omega) (by omega); simp at this; rw [this]; rfl)
@[simp] theorem encS_0 {s : Sec} : dIx (encS s) (.int 0) = some (.int (s.up : Int)) := by simp [encS]
@[simp] theorem encS_1 {s : Sec} : dIx (encS s) (.int 1) = some (.int (s.ppl : Int)) := by simp [encS]
@[simp] theorem encS_2 {s : Sec} : dIx (encS s) (.int 2) = some (encQ s.w1) := by simp [encS]
@[simp] theorem encS_3 {s : Sec} : dIx (encS s) (.int 3) = some (encQ s.w2) := by simp [encS]
theorem is_section_ok {s : Sec} (O : OkS s) {k : Nat} (h : s.up ≤ k) : m_is_section [encS s, .int (k : Int)] = some (.bool true) := by
  unfold m_is_section g_is_section
  have h' : (s.up : Int) ≤ (k : Int) := by omega
  have n : ¬ ((s.ppl : Int) < 0) := by omega
  simp [encS, h', n]
  rw [eLc_all encQ PyData.bool (fun _ => true) [s.w1, s.w2] (by simp) (by simp)]
  · simp [dAll, asBools]
  · intro q m
    have hq : 0 ≤ q := by
      simp at m
      rcases m with rfl | rfl
      · exact O.w1
      · exact O.w2
    refine ⟨_, rfl, ?_⟩
    have := Rat.num_nonneg.mpr hq
    simp [wipeE, is_fraction_ok, encQ, this]
    have e := is_fraction_ok q
    unfold encQ at e
    simp [e]
theorem check_feeder_ok (O : OkF F) : m_check_feeder [encF F] = some .none := by
  unfold m_check_feeder g_check_feeder
  have lo := O.lo
  have hi := O.hi
  have l1 : (1 : Int) ≤ (F.length : Int) := by omega
  have l2 : (F.length : Int) ≤ 10 := by omega
  obtain ⟨ρ', e, j1, j2, rfl⟩ := for_ix (a := aTup 2 (asCons (aName 1) (asCons (aName 2) asNil))) (b := b_check_feeder_1) (fun n ρ => ∃ j1 j2, ρ = [some (.val, encF F), j1, j2]) (enumD 0 (F.map encS)) 0 [some (.val, encF F), Option.none, Option.none] (by
    rintro k d ρ hd ⟨j1, j2, rfl⟩
    obtain ⟨x, hx, rfl⟩ := enumD_get _ _ _ _ hd
    rw [List.getElem?_map, Option.map_eq_some_iff] at hx
    obtain ⟨s, hs, rfl⟩ := hx
    refine ⟨_, [some (.val, encF F), some (.val, .int ((0 + k : Nat) : Int)), some (.val, encS s)], rfl, .inl ?_, _, _, rfl⟩
    unfold b_check_feeder_1
    have e := is_section_ok (O.s s (List.mem_of_getElem? hs)) (O.up k s hs)
    simp [e]) ⟨_, _, rfl⟩
  simp [l1, l2, e]
/-! ### lists of places -/
theorem pl_succ (n : Nat) : pl (n + 1) = pl n ++ [n + 1] := by unfold pl; rw [List.range_succ, List.map_append]; rfl
theorem pl_len (n : Nat) : (pl n).length = n := by simp [pl]
theorem iR2_pl {n : Nat} (h : n ≤ 100) : iR2 [.int 1, .int ((n : Int) + 1)] = some ((pl n).map fun q : Nat => PyData.int (q : Int)) := by
  rw [iR2_ap (by decide) (by simp; omega)]
  congr 1
  unfold pl
  rw [List.map_map]
  have e : ((n : Int) + 1 - 1).toNat = n := by omega
  rw [e]
  refine List.map_congr_left fun i _ => ?_
  simp only [Function.comp]
  congr 1
  omega
structure OkW (F : List Sec) (S : List Nat) : Prop where
  inc : S.Pairwise (· < ·)
  pl : ∀ p ∈ S, 1 ≤ p ∧ p ≤ F.length
  up : ∀ p ∈ S, (tr F).U p ≠ 0
theorem ok_len {S : List Nat} : ∀ (l n : Nat), S.Pairwise (· < ·) → (∀ p ∈ S, l < p ∧ p ≤ n) → S.length ≤ n - l := by
  induction S with
  | nil => intro l n _ _; simp
  | cons x r ih =>
    intro l n h hp
    obtain ⟨h1, h2⟩ := List.pairwise_cons.mp h
    have := ih x n h2 fun p m => ⟨h1 p m, (hp p (List.mem_cons_of_mem _ m)).2⟩
    have := hp x (by simp)
    simp only [List.length_cons]
    omega
theorem check_place_ok (h1 : 1 ≤ p) (h2 : p ≤ F.length) : m_check_place [encF F, .int (p : Int)] = some .none := by
  unfold m_check_place g_check_place
  have l1 : (1 : Int) ≤ (p : Int) := by omega
  have l2 : (p : Int) ≤ (F.length : Int) := by omega
  simp [l1, l2]
theorem check_switches_ok {S : List Nat} (O : OkF F) (W : OkW F S) : m_check_switches [encF F, lN S] = some .none := by
  unfold m_check_switches g_check_switches
  obtain ⟨ρ', e, j1, j2, rfl⟩ := for_ix (a := aTup 2 (asCons (aName 2) (asCons (aName 3) asNil))) (b := b_check_switches_1) (fun n ρ => ∃ j1 j2, ρ = [some (.val, encF F), some (.val, lN S), j1, j2]) (enumD 0 ((nI S).map PyData.int)) 0 [some (.val, encF F), some (.val, lN S), Option.none, Option.none] (by
    rintro k d ρ hd ⟨j1, j2, rfl⟩
    obtain ⟨x, hx, rfl⟩ := enumD_get _ _ _ _ hd
    simp only [nI, List.map_map, List.getElem?_map, Option.map_eq_some_iff] at hx
    obtain ⟨q, hq, rfl⟩ := hx
    obtain ⟨q1, q2⟩ := W.pl q (List.mem_of_getElem? hq)
    have q3 := W.up q (List.mem_of_getElem? hq)
    rw [U_eq O q1 q2] at q3
    refine ⟨_, [some (.val, encF F), some (.val, lN S), some (.val, .int ((0 + k : Nat) : Int)), some (.val, .int (q : Int))], rfl, .inl ?_, _, _, rfl⟩
    unfold b_check_switches_1
    have l1 : (1 : Int) ≤ (q : Int) := by omega
    have l2 : (q : Int) ≤ (F.length : Int) := by omega
    have e := at_p (F := F) q1 q2
    have u0 : ¬ (sec F q).up = 0 := q3
    cases k with
    | zero => simp [l1, l2, e, u0]
    | succ k =>
      have hk := (List.getElem?_eq_some_iff.mp hq).1
      have lt : S[k] < q := by
        have a := List.pairwise_iff_getElem.mp W.inc k (k + 1) (by omega) hk (by omega)
        have b := (List.getElem?_eq_some_iff.mp hq).2
        omega
      have e2 : atI ((S.map fun x : Nat => ((x : Nat) : Int)).map PyData.int) ((k : Int) + 1 - 1) = some (.int ((S[k] : Nat) : Int)) := atI_get (j := k) (by omega) (by simp; exact ⟨S[k], by simp, rfl⟩)
      have lt' : ¬ ((S[k] : Nat) : Int) ≥ (q : Int) := by omega
      have pos : ((k : Int) + 1) > 0 := by omega
      simp [l1, l2, e, u0, lN, lI, nI, pos] at e2 ⊢
      simp [e2]
      omega) ⟨_, _, rfl⟩
  simp [lN, lI, nI] at e ⊢
  simp [e]
theorem clearing_ok {S : List Nat} (O : OkF F) (h1 : 1 ≤ p) (h2 : p ≤ F.length) : m_clearing [encF F, lN S, .int (p : Int)] = some (.int ((clr (tr F) S p : Nat) : Int)) := by
  unfold m_clearing g_clearing
  obtain ⟨ρ', e, r⟩ := while_ind (c := bAnd (bV (eOp (dIn true) (eVar .any 3) (eVar .any 1))) (bV (eOp dNe (eOp dIx (eOp dIx (eVar .any 0) (eOp dSub (eVar .any 3) (eC (.int 1)))) (eC (.int 0))) (eC (.int 0))))) (b := b_clearing_1)
    (R := fun ρ => ρ = [some (.val, encF F), some (.val, lN S), some (.val, .int (p : Int)), some (.val, .int ((clr (tr F) S p : Nat) : Int))])
    (fun n ρ => ρ = [some (.val, encF F), some (.val, lN S), some (.val, .int (p : Int)), some (.val, .int (n : Int))] ∧ 1 ≤ n ∧ n ≤ F.length ∧ clr (tr F) S n = clr (tr F) S p) (by
    rintro n ρ ⟨rfl, n1, n2, hc⟩
    have e := at_p (F := F) n1 n2
    have u := U_eq O n1 n2
    have hin := dNotIn_N (l := S) (p := n)
    by_cases hS : n ∈ S
    · left
      refine ⟨by simp [-dNotIn_ints, hin, hS], ?_⟩
      rw [clr_in _ hS] at hc
      rw [hc]
    · by_cases hu : (tr F).U n = 0
      · left
        have u0 : (sec F n).up = 0 := by omega
        refine ⟨by simp [-dNotIn_ints, hin, hS, e, u0], ?_⟩
        rw [clr_0 _ hu] at hc
        rw [hc]
      · right
        have u0 : ¬ (sec F n).up = 0 := by omega
        have := (tr F).h n hu
        refine ⟨by simp [-dNotIn_ints, hin, hS, e, u0], (tr F).U n, _, this, ?_, rfl, by omega, by omega, ?_⟩
        · unfold b_clearing_1
          simp [e, u]
        · rw [clr_1 _ hu hS] at hc
          exact hc) p [some (.val, encF F), some (.val, lN S), some (.val, .int (p : Int)), some (.val, .int (p : Int))] ⟨rfl, h1, h2, rfl⟩
  subst r
  simp [e]
/-- places behind p -/
def bh (F : List Sec) (p k : Nat) : List Nat := p :: (pl k).filter fun q => decide (q ≠ p) && decide (p ∈ way (tr F) q)
theorem bh_step (O : OkF F) (h1 : 1 ≤ p) {k : Nat} (hk : k < F.length) : ((sec F (k + 1)).up ∈ bh F p k) ↔ (k + 1 ≠ p ∧ p ∈ way (tr F) (k + 1)) := by
  have u := U_eq O (p := k + 1) (by omega) (by omega)
  unfold bh
  rw [← u]
  constructor
  · intro h
    rcases List.mem_cons.mp h with h | h
    · have hu : (tr F).U (k + 1) ≠ 0 := by omega
      have := (tr F).h _ hu
      refine ⟨by omega, (mem_way _ hu).mpr (.inr ?_)⟩
      rw [h]
      exact self_way _ p
    · obtain ⟨m1, m2⟩ := List.mem_filter.mp h
      simp only [Bool.and_eq_true, decide_eq_true_eq] at m2
      have b := mem_pl.mp m1
      have hu : (tr F).U (k + 1) ≠ 0 := by omega
      have := way_le _ _ m2.2
      exact ⟨by omega, (mem_way _ hu).mpr (.inr m2.2)⟩
  · rintro ⟨h3, h4⟩
    by_cases hu : (tr F).U (k + 1) = 0
    · rw [way_0 _ hu] at h4
      simp at h4
      omega
    · have h5 := ((mem_way _ hu).mp h4).resolve_left (fun z => h3 z.symm)
      by_cases z : (tr F).U (k + 1) = p
      · rw [z]; simp
      · have := (tr F).h _ hu
        refine List.mem_cons_of_mem _ (List.mem_filter.mpr ⟨mem_pl.mpr ⟨by omega, by omega⟩, ?_⟩)
        simp [z, h5]
theorem bh_all (h1 : 1 ≤ p) : ∀ k : Nat, (k < p → (pl k).filter (fun q => decide (q ≠ p) && decide (p ∈ way (tr F) q)) = [] ∧ (pl k).filter (fun q => decide (p ∈ way (tr F) q)) = []) ∧
    (p ≤ k → bh F p k = (pl k).filter fun q => decide (p ∈ way (tr F) q)) := by
  intro k
  induction k with
  | zero => exact ⟨fun _ => ⟨rfl, rfl⟩, fun h => by omega⟩
  | succ k ih =>
    refine ⟨fun h => ?_, fun h => ?_⟩
    · have n : ¬ p ∈ way (tr F) (k + 1) := fun z => by have := way_le _ _ z; omega
      obtain ⟨a, b⟩ := ih.1 (by omega)
      rw [pl_succ, List.filter_append, List.filter_append, a, b]
      simp [n]
    · by_cases z : p = k + 1
      · subst z
        obtain ⟨a, b⟩ := ih.1 (by omega)
        unfold bh
        rw [pl_succ, List.filter_append, List.filter_append, a, b]
        simp [self_way]
      · have := ih.2 (by omega)
        unfold bh at this ⊢
        rw [pl_succ, List.filter_append, List.filter_append, ← this]
        have z' : ¬ k + 1 = p := fun q => z q.symm
        simp [z', List.filter_cons]
theorem behind_ok (O : OkF F) (h1 : 1 ≤ p) (h2 : p ≤ F.length) : m_behind_of [encF F, .int (p : Int)] = some (lN ((pl F.length).filter fun q => decide (p ∈ way (tr F) q))) := by
  unfold m_behind_of g_behind_of
  have hi := O.hi
  obtain ⟨ρ', e, j1, j2, rfl⟩ := for_ix (a := aTup 2 (asCons (aName 3) (asCons (aName 4) asNil))) (b := b_behind_of_1) (fun n ρ => ∃ j1 j2, ρ = [some (.val, encF F), some (.val, .int (p : Int)), some (.lst .val, lN (bh F p n)), j1, j2]) (enumD 0 (F.map encS)) 0
    [some (.val, encF F), some (.val, .int (p : Int)), some (.lst .val, lN [p]), Option.none, Option.none] (by
    rintro k d ρ hd ⟨j1, j2, rfl⟩
    obtain ⟨x, hx, rfl⟩ := enumD_get _ _ _ _ hd
    rw [List.getElem?_map, Option.map_eq_some_iff] at hx
    obtain ⟨s, hs, rfl⟩ := hx
    have hk := (List.getElem?_eq_some_iff.mp hs).1
    have es : s = sec F (k + 1) := by
      have := sec_get (F := F) (p := k + 1) (by omega) (by omega)
      rw [show k + 1 - 1 = k by omega, hs] at this
      exact Option.some.inj this
    subst es
    refine ⟨_, [some (.val, encF F), some (.val, .int (p : Int)), some (.lst .val, lN (bh F p (k + 1))), some (.val, .int ((0 + k : Nat) : Int)), some (.val, encS (sec F (k + 1)))], rfl, .inl ?_, some (.val, .int ((0 + k : Nat) : Int)), some (.val, encS (sec F (k + 1))), by rw [Nat.zero_add]⟩
    unfold b_behind_of_1
    have st := bh_step O h1 hk
    have hin := dIn_N (l := bh F p k) (p := (sec F (k + 1)).up)
    have hl : (bh F p k).length ≤ 12 := by
      unfold bh
      have := List.length_filter_le (fun q => decide (q ≠ p) && decide (p ∈ way (tr F) q)) (pl k)
      rw [pl_len] at this
      simp only [List.length_cons]
      omega
    have hl' : (bh F p k).length < 16777216 := by omega
    have nx : bh F p (k + 1) = if (k + 1 ≠ p ∧ p ∈ way (tr F) (k + 1)) then bh F p k ++ [k + 1] else bh F p k := by
      unfold bh
      rw [pl_succ, List.filter_append]
      split
      · rename_i h; simp [h.1, h.2]
      · rename_i h; simp at h ⊢; exact h
    by_cases z : (sec F (k + 1)).up ∈ bh F p k
    · rw [nx, if_pos (st.mp z)]
      simp [-dIn_ints, hin, z, hl', nI]
    · rw [nx, if_neg (fun q => z (st.mpr q))]
      simp [-dIn_ints, hin, z]) ⟨Option.none, Option.none, by simp [bh, pl]⟩
  rw [enumD_len, List.length_map, Nat.zero_add, (bh_all h1 F.length).2 h2] at e
  have e' : forF (aTup 2 (asCons (aName 3) (asCons (aName 4) asNil))) b_behind_of_1 (enumD 0 (F.map encS)) [some (.val, encF F), some (.val, .int (p : Int)), some (.lst .val, .list [.int (p : Int)]), Option.none, Option.none] = _ := e
  simp [e']
end
end DL

/-! K35c: people, hours lost, hours saved; the law's own reckoning by ways. -/
namespace DL
open PySem PySem.Spec PyProof.Rows L2 K35
section
variable {F : List Sec} {p : Nat}
abbrev pl? (F : List Sec) : Nat → Nat := fun q => (sec F q).ppl
abbrev wt (F : List Sec) : Nat → Rat := fun q => (sec F q).w1 * (sec F q).w2
theorem wt_sm (O : OkF F) (h1 : 1 ≤ p) (h2 : p ≤ F.length) : Sm 6 (wt F p) := ((O.s _ (sec_mem h1 h2)).s1).mul ((O.s _ (sec_mem h1 h2)).s2)
theorem wt_nn (O : OkF F) (h1 : 1 ≤ p) (h2 : p ≤ F.length) : 0 ≤ wt F p := Rat.mul_nonneg (O.s _ (sec_mem h1 h2)).w1 (O.s _ (sec_mem h1 h2)).w2
theorem ns_le (O : OkF F) : ∀ {l : List Nat}, (∀ q ∈ l, 1 ≤ q ∧ q ≤ F.length) → ns (pl? F) l ≤ 20 * l.length
  | [], _ => by simp [ns]
  | x :: l, h => by
    have a := ns_le O (l := l) fun q m => h q (List.mem_cons_of_mem _ m)
    have b : pl? F x < 20 := (O.s _ (sec_mem (h x (by simp)).1 (h x (by simp)).2)).ppl
    unfold ns at a ⊢
    simp only [List.map_cons, List.sum_cons, List.length_cons]
    omega
theorem ns_lt (O : OkF F) (f : Nat → Bool) : ns (pl? F) ((pl F.length).filter f) < 2 ^ 8 := by
  have a := ns_le O (l := (pl F.length).filter f) fun q m => mem_pl.mp ((List.mem_filter.mp m).1)
  have b := List.length_filter_le f (pl F.length)
  rw [pl_len] at b
  have := O.hi
  omega
theorem encQ_nat (m : Nat) : encQ ((m : Nat) : Rat) = .tuple [.int (m : Int), .int 1] := by
  unfold encQ
  simp
theorem sm_nat {m a : Nat} (h : m < 2 ^ a) (ha : 0 < a) : Sm a ((m : Nat) : Rat) := ⟨by simpa using h, by simpa using Nat.one_lt_two_pow (by omega)⟩
/-- one section's term -/
theorem t1_ok {mt : DA} (T1 : IsTi mt) (O : OkF F) (h1 : 1 ≤ p) (h2 : p ≤ F.length) : mt [encQ (sec F p).w1, encQ (sec F p).w2] = some (encQ (wt F p)) := by
  have s := O.s _ (sec_mem h1 h2)
  rw [T1 (s.s1.mono (by decide)) (s.s2.mono (by decide))]
theorem t2_ok {mt : DA} (T1 : IsTi mt) (O : OkF F) (h1 : 1 ≤ p) (h2 : p ≤ F.length) {m : Nat} (hm : m < 2 ^ 8) : mt [encQ (wt F p), .tuple [.int (m : Int), .int 1]] = some (encQ (wt F p * (m : Rat))) := by
  rw [← encQ_nat, T1 ((wt_sm O h1 h2).mono (by decide)) ((sm_nat hm (by decide)).mono (by decide))]
theorem term_sm (O : OkF F) (h1 : 1 ≤ p) (h2 : p ≤ F.length) {m : Nat} (hm : m < 2 ^ 8) : Sm 14 (wt F p * (m : Rat)) := (wt_sm O h1 h2).mul (sm_nat hm (by decide))
theorem sum_sm {a : Nat} : ∀ {l : List Rat}, (∀ q ∈ l, Sm a q) → Sm ((a + 1) * l.length + 1) l.sum
  | [], _ => Sm.mono (a := 1) (q := 0) ⟨by decide, by decide⟩ (by omega)
  | x :: l, h => by
    have b := (h x (by simp)).add (sum_sm (l := l) fun q m => h q (List.mem_cons_of_mem _ m))
    rw [List.sum_cons]
    refine b.mono ?_
    rw [List.length_cons, Nat.mul_succ]
    omega
theorem sum_sm10 {l : List Rat} (h : ∀ q ∈ l, Sm 14 q) (hl : l.length ≤ 10) : Sm 160 l.sum := (sum_sm h).mono (by omega)
/-- sum(people of these places) -/
theorem ppl_sum {i : Env → Option (List PyData)} {v : Nat} {ρ : Env} {l : List Nat} (hi : i ρ = some (l.map fun q : Nat => PyData.int (q : Int))) (hl : l.length ≤ most) (hb : ∀ q ∈ l, 1 ≤ q ∧ q ≤ F.length) (hv : v < ρ.length) (h0 : v ≠ 0) (hρ : ρ[0]? = some (some (.val, encF F))) :
    ∃ x, eLc i (aName v) bYes (eOp dIx (eOp dIx (eVar .val 0) (eOp dSub (eVar .any v) (eC (.int 1)))) (eC (.int 1))) [v] ρ = some x ∧ dSum [x] = some (.int ((ns (pl? F) l : Nat) : Int)) := by
  refine ⟨.list ((l.map id).map fun q : Nat => PyData.int (((sec F q).ppl : Nat) : Int)), eLc_all (fun q : Nat => PyData.int (q : Int)) (fun q : Nat => PyData.int (((sec F q).ppl : Nat) : Int)) id l hi hl ?_, ?_⟩
  rotate_left
  · simp only [List.map_id]
    rw [show (l.map fun q : Nat => PyData.int (((sec F q).ppl : Nat) : Int)) = (nI (l.map (pl? F))).map PyData.int by simp [nI, List.map_map, Function.comp_def]]
    rw [dSum_ap, sum_nI]
    rfl
  · intro q m
    obtain ⟨q1, q2⟩ := hb q m
    refine ⟨(wipeE ρ [v]).set v (some (.val, .int (q : Int))), ?_, ?_⟩
    · simp [wipeE, hv]
    · have e := at_p (F := F) q1 q2
      have hv' : (wipeE ρ [v]).length = ρ.length := by simp [wipeE]
      simp [hv, hv', wipeE, List.getElem?_set, h0, hρ, e]
theorem people_ok (O : OkF F) (h1 : 1 ≤ p) (h2 : p ≤ F.length) : m_people_of [encF F, .int (p : Int)] = some (.int ((pp (tr F) F.length (pl? F) p : Nat) : Int)) := by
  unfold m_people_of g_people_of
  have hi := O.hi
  have e := behind_ok O h1 h2
  have hl := List.length_filter_le (fun q => decide (p ∈ way (tr F) q)) (pl F.length)
  rw [pl_len] at hl
  have z := ppl_sum (F := F) (i := iE asS (eCB m_behind_of (aCons (eVar .val 0) (aCons (eVar .val 1) aNil)))) (v := 2) (ρ := [some (.val, encF F), some (.val, .int (p : Int)), Option.none]) (l := (pl F.length).filter fun q => decide (p ∈ way (tr F) q))
    (by simp [e, lN_map]) (by unfold most; omega) (fun q m => mem_pl.mp ((List.mem_filter.mp m).1)) (by simp) (by decide) rfl
  obtain ⟨x, z1, z2⟩ := z
  simp [z1, z2, pp]
theorem sm_append (f : Nat → Rat) (l : List Nat) (x : Nat) : sm f (l ++ [x]) = sm f l + f x := by simp [sm, Rat.add_zero]
theorem sm_sm (O : OkF F) {f : Nat → Nat} (hf : ∀ q, f q < 2 ^ 8) {k : Nat} (hk : k ≤ F.length) : Sm 160 (sm (fun q => wt F q * (f q : Rat)) (pl k)) := by
  unfold sm
  refine sum_sm10 (fun q m => ?_) (by rw [List.length_map, pl_len]; have := O.hi; omega)
  obtain ⟨x, hx, rfl⟩ := List.mem_map.mp m
  have := mem_pl.mp hx
  exact term_sm O this.1 (by omega) (hf x)
theorem pp_lt (O : OkF F) (c : Nat) : pp (tr F) F.length (pl? F) c < 2 ^ 8 := ns_lt O _
theorem lost_ok {S : List Nat} (O : OkF F) : m_lost_of [encF F, lN S] = some (encQ (lost (tr F) F.length (pl? F) (wt F) S)) := by
  unfold m_lost_of g_lost_of
  obtain ⟨ρ', e, j3, j4, j5, j6, j7, rfl⟩ := for_ix (a := aTup 2 (asCons (aName 3) (asCons (aTup 4 (asCons (aName 4) (asCons (aName 4) (asCons (aName 5) (asCons (aName 6) asNil))))) asNil))) (b := b_lost_of_1)
    (fun n ρ => ∃ j3 j4 j5 j6 j7, ρ = [some (.val, encF F), some (.val, lN S), some (.val, encQ (sm (fun q => wt F q * ((pp (tr F) F.length (pl? F) (clr (tr F) S q) : Nat) : Rat)) (pl n))), j3, j4, j5, j6, j7]) (enumD 0 (F.map encS)) 0
    [some (.val, encF F), some (.val, lN S), some (.val, .tuple [.int 0, .int 1]), Option.none, Option.none, Option.none, Option.none, Option.none] (by
    rintro k d ρ hd ⟨j3, j4, j5, j6, j7, rfl⟩
    obtain ⟨x, hx, rfl⟩ := enumD_get _ _ _ _ hd
    rw [List.getElem?_map, Option.map_eq_some_iff] at hx
    obtain ⟨s, hs, rfl⟩ := hx
    have hk := (List.getElem?_eq_some_iff.mp hs).1
    have es : s = sec F (k + 1) := by
      have := sec_get (F := F) (p := k + 1) (by omega) (by omega)
      rw [show k + 1 - 1 = k by omega, hs] at this
      exact Option.some.inj this
    subst es
    have cw := clr_way (tr F) S (k + 1)
    have c1 := way_pos _ _ (by omega) cw
    have c2 := way_le _ _ cw
    have m := pp_lt O (clr (tr F) S (k + 1))
    have e1 := clearing_ok (S := S) O (p := k + 1) (by omega) (by omega)
    have e2 := people_ok O (p := clr (tr F) S (k + 1)) c1 (by omega)
    have e3 := t1_ok times_ok O (p := k + 1) (by omega) (by omega)
    have e5 := t2_ok times_ok O (p := k + 1) (by omega) (by omega) m
    have e4 := plus_ok ((sm_sm O (f := fun q => pp (tr F) F.length (pl? F) (clr (tr F) S q)) (fun q => pp_lt O _) (k := k) (by omega)).mono (by decide)) ((term_sm O (p := k + 1) (by omega) (by omega) m).mono (by decide))
    rw [show ((k + 1 : Nat) : Int) = (k : Int) + 1 by omega] at e1
    refine ⟨_, [some (.val, encF F), some (.val, lN S), some (.val, encQ (sm (fun q => wt F q * ((pp (tr F) F.length (pl? F) (clr (tr F) S q) : Nat) : Rat)) (pl (k + 1)))), some (.val, .int ((0 + k : Nat) : Int)), some (.val, .int ((sec F (k + 1)).ppl : Int)), some (.val, encQ (sec F (k + 1)).w1), some (.val, encQ (sec F (k + 1)).w2), some (.val, .int ((pp (tr F) F.length (pl? F) (clr (tr F) S (k + 1)) : Nat) : Int))],
      rfl, .inl ?_, _, _, _, _, _, by rw [Nat.zero_add]⟩
    unfold b_lost_of_1
    rw [pl_succ, sm_append]
    simp [e1, e2, e3, e4, e5]) ⟨Option.none, Option.none, Option.none, Option.none, Option.none, rfl⟩
  simp [enumD_len] at e
  simp [e, lost]
theorem w_len {S : List Nat} (O : OkF F) (W : OkW F S) : S.length ≤ 10 := by
  have := ok_len (S := S) 0 F.length W.inc fun p m => by have := W.pl p m; omega
  have := O.hi
  omega
theorem out_for_ok {S : List Nat} (O : OkF F) (W : OkW F S) (h1 : 1 ≤ p) (h2 : p ≤ F.length) : m_out_for [encF F, lN S, .int (p : Int)] = some (lN ((pl F.length).filter fun q => decide (clr (tr F) S p ∈ way (tr F) q))) := by
  unfold m_out_for g_out_for
  have cw := clr_way (tr F) S p
  have c1 := way_pos _ _ (by omega) cw
  have c2 := way_le _ _ cw
  have e1 := check_feeder_ok O
  have e2 := check_switches_ok O W
  have e3 := check_place_ok (F := F) h1 h2
  have e4 := clearing_ok (S := S) O h1 h2
  have e5 := behind_ok O (p := clr (tr F) S p) c1 (by omega)
  simp [e1, e2, e3, e4, e5]
theorem lost_hours_ok {S : List Nat} (O : OkF F) (W : OkW F S) : m_lost_hours [encF F, lN S] = some (encQ (lost (tr F) F.length (pl? F) (wt F) S)) := by
  unfold m_lost_hours g_lost_hours
  have e1 := check_feeder_ok O
  have e2 := check_switches_ok O W
  have e3 := lost_ok (S := S) O
  simp [e1, e2, e3]
theorem lost_sm (O : OkF F) (S : List Nat) : Sm 160 (lost (tr F) F.length (pl? F) (wt F) S) := sm_sm O (f := fun q => pp (tr F) F.length (pl? F) (clr (tr F) S q)) (fun q => pp_lt O _) (Nat.le_refl _)
theorem srt_nat {l : List Int} {S : List Nat} (h : l.Perm (nI S)) : ∃ S' : List Nat, srt l = nI S' ∧ ∀ x, x ∈ S' ↔ x ∈ S := by
  have pr := (srt_perm l).trans h
  have e : srt l = nI ((srt l).map Int.toNat) := by
    have nn : ∀ i ∈ srt l, 0 ≤ i := fun i m => by
      obtain ⟨x, _, rfl⟩ := List.mem_map.mp (pr.mem_iff.mp m)
      omega
    generalize srt l = L at nn
    induction L with
    | nil => rfl
    | cons x r ih =>
      have := nn x (by simp)
      have i2 := ih fun i m => nn i (List.mem_cons_of_mem _ m)
      simp only [nI, List.map_cons] at i2 ⊢
      rw [← i2]
      congr 1
      omega
  refine ⟨_, e, fun x => ?_⟩
  rw [← mem_nI, ← e, pr.mem_iff, mem_nI]
theorem saved_of_ok {S : List Nat} (O : OkF F) (W : OkW F S) (h1 : 1 ≤ p) (h2 : p ≤ F.length) : m_saved_of [encF F, lN S, .int (p : Int)] = some (encQ (if p ∈ S ∨ (tr F).U p = 0 then 0 else save (tr F) F.length (pl? F) (wt F) S p)) := by
  unfold m_saved_of g_saved_of
  have e := at_p (F := F) h1 h2
  have u := U_eq O h1 h2
  have hin := dIn_N (l := S) (p := p)
  by_cases hS : p ∈ S
  · rw [if_pos (.inl hS)]
    simp [-dIn_ints, hin, hS, encQ_0]
  · by_cases hu : (tr F).U p = 0
    · rw [if_pos (.inr hu)]
      have u0 : (sec F p).up = 0 := by omega
      simp [-dIn_ints, hin, hS, e, u0, encQ_0]
    · rw [if_neg (by simp [hS, hu])]
      have u0 : ¬ (sec F p).up = 0 := by omega
      obtain ⟨S', es, mS⟩ := srt_nat (l := nI S ++ [(p : Int)]) (S := S ++ [p]) (by simp [nI])
      have e1 := lost_ok (S := S) O
      have e2 := lost_ok (S := S') O
      have e3 := minus_ok ((lost_sm O S).mono (by decide)) ((lost_sm O S').mono (by decide))
      rw [save_lost (tr F) hS hu (S' := S') (fun x => by rw [mS]; simp)] at e3
      have ed : dSorted [.list ((nI S).map PyData.int ++ [.int (p : Int)])] = some (lN S') := by
        have := dSorted_ap (ns := nI S ++ [(p : Int)])
        rw [es, List.map_append] at this
        exact this
      have st : aStar (eVar (.lst .val) 1) (aCons (eVar .val 2) aNil) [some (.val, encF F), some (.val, lN S), some (.val, .int (p : Int))] = some ((nI S).map PyData.int ++ [.int (p : Int)]) := aStar_list (xs := (nI S).map PyData.int) (by simp) (by simp)
      have len : S.length + 1 ≤ 16777216 := by have := w_len O W; omega
      simp [-dIn_ints, -List.map_map, hin, hS, e, u0, st, ed, e1, e2, e3, len]
      
theorem saved_ok {S : List Nat} (O : OkF F) (W : OkW F S) (h1 : 1 ≤ p) (h2 : p ≤ F.length) : m_saved [encF F, lN S, .int (p : Int)] = some (encQ (if p ∈ S ∨ (tr F).U p = 0 then 0 else save (tr F) F.length (pl? F) (wt F) S p)) := by
  unfold m_saved g_saved
  have e1 := check_feeder_ok O
  have e2 := check_switches_ok O W
  have e3 := check_place_ok (F := F) h1 h2
  have e4 := saved_of_ok O W h1 h2
  simp [e1, e2, e3, e4]
/-! ### by ways -/
theorem way_ne (T : Tr) (p : Nat) : ∃ r rest, way T p = r :: rest := by
  cases h : way T p with
  | nil => have := self_way T p; rw [h] at this; cases this
  | cons r rest => exact ⟨r, rest, rfl⟩
theorem way_len (T : Tr) : ∀ p : Nat, (way T p).length ≤ p + 1 := by
  intro p
  induction p using Nat.strongRecOn with
  | _ p ih =>
    by_cases h : T.U p = 0
    · rw [way_0 T h]; simp
    · rw [way_1 T h]
      have := ih _ (T.h p h)
      have := T.h p h
      simp; omega
theorem lway_ok (O : OkF F) (h1 : 1 ≤ p) (h2 : p ≤ F.length) : m__law_way [encF F, .int (p : Int)] = some (lN (way (tr F) p)) := by
  unfold m__law_way g__law_way
  have hi := O.hi
  obtain ⟨ρ', e, r⟩ := while_ind (c := bV (eOp dNe (eOp dIx (eOp dIx (eVar .any 0) (eOp dSub (eOp dIx (eVar .any 2) (eC (.int 0))) (eC (.int 1)))) (eC (.int 0))) (eC (.int 0)))) (b := b__law_way_1)
    (R := fun ρ => ρ = [some (.val, encF F), some (.val, .int (p : Int)), some (.val, lN (way (tr F) p))])
    (fun n ρ => ∃ rest, ρ = [some (.val, encF F), some (.val, .int (p : Int)), some (.val, lN (n :: rest))] ∧ 1 ≤ n ∧ n ≤ F.length ∧ way (tr F) n ++ rest = way (tr F) p) (by
    rintro n ρ ⟨rest, rfl, n1, n2, hc⟩
    have e := at_p (F := F) n1 n2
    have u := U_eq O n1 n2
    by_cases hu : (tr F).U n = 0
    · left
      have u0 : (sec F n).up = 0 := by omega
      refine ⟨by simp [nI, e, u0], ?_⟩
      rw [way_0 _ hu] at hc
      rw [← hc]
      rfl
    · right
      have u0 : ¬ (sec F n).up = 0 := by omega
      have lt := (tr F).h n hu
      have lw := way_len (tr F) p
      have lr : rest.length ≤ 11 := by
        have := congrArg List.length hc
        rw [List.length_append] at this
        omega
      refine ⟨by simp [nI, e, u0], (tr F).U n, _, lt, ?_, n :: rest, rfl, by omega, by omega, ?_⟩
      · unfold b__law_way_1
        have l1 : 1 + (rest.length + 1) ≤ 16777216 := by omega
        simp [nI, e, u, l1]
      · rw [way_1 _ hu] at hc
        simpa using hc) p [some (.val, encF F), some (.val, .int (p : Int)), some (.val, lN [p])] ⟨[], rfl, h1, h2, by simp⟩
  subst r
  have e' : gWhile (bV (eOp dNe (eOp dIx (eOp dIx (eVar .any 0) (eOp dSub (eOp dIx (eVar .any 2) (eC (.int 0))) (eC (.int 1)))) (eC (.int 0))) (eC (.int 0)))) b__law_way_1 [some (.val, encF F), some (.val, .int (p : Int)), some (.val, .list [.int (p : Int)])] = _ := e
  simp [e']
theorem head_last (T : Tr) (S : List Nat) : ∀ p r : Nat, (way T p).head? = some r → ∃ xs, (way T p).filter (fun q => decide (q = r) || decide (q ∈ S)) = xs ++ [clr T S p] := by
  intro p
  induction p using Nat.strongRecOn with
  | _ p ih =>
    intro r hr
    by_cases h : T.U p = 0
    · rw [way_0 T h] at hr ⊢
      rw [clr_0 T h]
      simp at hr
      subst hr
      exact ⟨[], by simp⟩
    · obtain ⟨r', rest, er⟩ := way_ne T (T.U p)
      rw [way_1 T h] at hr ⊢
      have hr' : (way T (T.U p)).head? = some r := by rw [er] at hr ⊢; simpa using hr
      obtain ⟨xs, ex⟩ := ih _ (T.h p h) r hr'
      have rm : r ∈ way T (T.U p) := List.mem_of_mem_head? hr'
      have rl := way_le T _ rm
      have := T.h p h
      rw [List.filter_append]
      by_cases hS : p ∈ S
      · rw [clr_in T hS]
        exact ⟨_, by rw [List.filter_cons]; simp [hS]; rfl⟩
      · rw [clr_1 T h hS, ex]
        refine ⟨xs, ?_⟩
        have : ¬ p = r := by omega
        simp [hS, this]
/-- the last one on the way that is the first or a switch -/
theorem head_ok {S : List Nat} {w v : Nat} {ρ : Env} (hw : ρ[w]? = some (some (.val, lN (way (tr F) p)))) (hS : ρ[1]? = some (some (.val, lN S))) (hv : v < ρ.length) (v1 : v ≠ 1) (vw : v ≠ w) (lp : p ≤ 10) :
    ∃ x, eLc (iE asS (eVar .val w)) (aName v) (bOr (bV (eOp dEq (eVar .any v) (eOp dIx (eVar .any w) (eC (.int 0))))) (bV (eOp (dIn false) (eVar .any v) (eVar .any 1)))) (eVar .val v) [v] ρ = some x ∧ dIx x (.int (-1)) = some (.int ((clr (tr F) S p : Nat) : Int)) := by
  obtain ⟨r, rest, er⟩ := way_ne (tr F) p
  have lw := way_len (tr F) p
  refine ⟨_, eLc_map (fun q : Nat => PyData.int (q : Int)) (fun q : Nat => PyData.int (q : Int)) (fun q => decide (q = r) || decide (q ∈ S)) id (way (tr F) p) (by simp [hw, lN_map]) (by unfold most; omega) ?_, ?_⟩
  rotate_left
  · obtain ⟨xs, ex⟩ := head_last (tr F) S p r (by rw [er]; rfl)
    rw [List.map_id, ex, List.map_append]
    exact atI_last _ _
  · intro q m
    refine ⟨ρ.set v (some (.val, .int (q : Int))), by simp [wipeE, hv], ?_, ?_⟩
    · have vw' : ¬ w = v := fun z => vw z.symm
      have v1' : ¬ 1 = v := fun z => v1 z.symm
      have hin := dIn_N (l := S) (p := q)
      simp only [bOr_ap, bV_ap, eOp_ap, eVar_ap, List.getElem?_set, hw, hS, vw, v1, vw', v1', hv, er, eC_ap]
      simp [-dIn_ints, nI, hw, hS, hin]
      by_cases hqr : q = r
      · simp [hqr]
      · have : ¬ ((q : Nat) : Int) = (r : Int) := by omega
        simp [hqr, this]
    · intro _
      simp [List.getElem?_set, hv]
end
end DL

/-! K35d: the law's own reckoning, ended. -/
namespace DL
open PySem PySem.Spec PyProof.Rows L2 K35
section
variable {F : List Sec} {p : Nat}
theorem lout_ok {S : List Nat} (O : OkF F) (h1 : 1 ≤ p) (h2 : p ≤ F.length) : m__law_out [encF F, lN S, .int (p : Int)] = some (lN ((pl F.length).filter fun q => decide (clr (tr F) S p ∈ way (tr F) q))) := by
  unfold m__law_out g__law_out
  have hi := O.hi
  have e1 := lway_ok O h1 h2
  obtain ⟨x2, e2, e2'⟩ := head_ok (F := F) (p := p) (S := S) (w := 3) (v := 5) (ρ := [some (.val, encF F), some (.val, lN S), some (.val, .int (p : Int)), some (.val, lN (way (tr F) p)), Option.none, Option.none]) rfl rfl (by simp) (by decide) (by decide) (by omega)
  have e3 : eLc (iA iR2 (aCons (eC (.int 1)) (aCons (eOp dAdd (eCB dLen (aCons (eVar .any 0) aNil)) (eC (.int 1))) aNil))) (aName 5) (bV (eOp (dIn false) (eVar .any 4) (eCB m__law_way (aCons (eVar .val 0) (aCons (eVar .val 5) aNil))))) (eVar .val 5) [5]
      [some (.val, encF F), some (.val, lN S), some (.val, .int (p : Int)), some (.val, lN (way (tr F) p)), some (.val, .int ((clr (tr F) S p : Nat) : Int)), Option.none] = some (lN ((pl F.length).filter fun q => decide (clr (tr F) S p ∈ way (tr F) q))) := by
    rw [eLc_map (fun q : Nat => PyData.int (q : Int)) (fun q : Nat => PyData.int (q : Int)) (fun q => decide (clr (tr F) S p ∈ way (tr F) q)) id (pl F.length) (by simp [iR2_pl (n := F.length) (by omega)]) (by rw [pl_len]; unfold most; omega)]
    · rw [List.map_id, ← lN_map]
    · intro q m
      obtain ⟨q1, q2⟩ := mem_pl.mp m
      have e := lway_ok O q1 q2
      have hin := dIn_N (l := way (tr F) q) (p := clr (tr F) S p)
      refine ⟨_, rfl, ?_, fun _ => ?_⟩
      · simp [-List.map_map, -dIn_ints, wipeE, e, hin]
      · simp [wipeE]
  simp [-List.map_map, e1, e2, e2', e3]
theorem lost_body {S : List Nat} (O : OkF F) (h1 : 1 ≤ p) (h2 : p ≤ F.length) {L : List PyData} (hL : L.length ≤ 10) {j3 j4 j5 j6 j7 j8 j9 : Option (Kd × PyData)} :
    b__law_lost_1 [some (.val, encF F), some (.val, lN S), some (.lst .val, .list L), some (.val, .int (p : Int)), j4, j5, j6, j7, j8, j9] =
      some (.nx [some (.val, encF F), some (.val, lN S), some (.lst .val, .list (L ++ [encQ (wt F p * ((pp (tr F) F.length (pl? F) (clr (tr F) S p) : Nat) : Rat))])), some (.val, .int (p : Int)), some (.val, .int ((sec F p).up : Int)), some (.val, .int ((sec F p).ppl : Int)),
        some (.val, encQ (sec F p).w1), some (.val, encQ (sec F p).w2), some (.val, .int ((pp (tr F) F.length (pl? F) (clr (tr F) S p) : Nat) : Int)), j9]) := by
  unfold b__law_lost_1
  have hi := O.hi
  have e := at_p (F := F) h1 h2
  have e1 := lout_ok (S := S) O h1 h2
  have hl := List.length_filter_le (fun q => decide (clr (tr F) S p ∈ way (tr F) q)) (pl F.length)
  rw [pl_len] at hl
  obtain ⟨x2, e2, e2'⟩ := ppl_sum (F := F) (i := iE asS (eCB m__law_out (aCons (eVar .val 0) (aCons (eVar .val 1) (aCons (eVar .val 3) aNil))))) (v := 9)
    (ρ := [some (.val, encF F), some (.val, lN S), some (.lst .val, .list L), some (.val, .int (p : Int)), some (.val, .int ((sec F p).up : Int)), some (.val, .int ((sec F p).ppl : Int)), some (.val, encQ (sec F p).w1), some (.val, encQ (sec F p).w2), j8, j9])
    (l := (pl F.length).filter fun q => decide (clr (tr F) S p ∈ way (tr F) q)) (by simp [-List.map_map, e1]; exact List.map_map) (by unfold most; omega) (fun q m => mem_pl.mp (List.mem_filter.mp m).1) (by simp) (by decide) rfl
  have m := pp_lt O (clr (tr F) S p)
  have e3 := t1_ok ltimes_ok O h1 h2
  have e5 := t2_ok ltimes_ok O h1 h2 m
  have hL' : L.length < 16777216 := by omega
  simp only [pp] at e5 ⊢
  have es : encS (sec F p) = .tuple [.int ((sec F p).up : Int), .int ((sec F p).ppl : Int), encQ (sec F p).w1, encQ (sec F p).w2] := rfl
  simp [-List.map_map, e, es, e2, e2', e3, e5, hL']
theorem llost_ok {S : List Nat} (O : OkF F) : m__law_lost [encF F, lN S] = some (encQ (lost (tr F) F.length (pl? F) (wt F) S)) := by
  unfold m__law_lost g__law_lost
  have hi := O.hi
  obtain ⟨ρ', e, j3, j4, j5, j6, j7, j8, j9, rfl⟩ := for_ix (a := aName 3) (b := b__law_lost_1)
    (fun n ρ => ∃ j3 j4 j5 j6 j7 j8 j9, ρ = [some (.val, encF F), some (.val, lN S), some (.lst .val, .list (((pl n).map fun q => wt F q * ((pp (tr F) F.length (pl? F) (clr (tr F) S q) : Nat) : Rat)).map encQ)), j3, j4, j5, j6, j7, j8, j9]) ((pl F.length).map fun q : Nat => PyData.int (q : Int)) 0
    [some (.val, encF F), some (.val, lN S), some (.lst .val, .list []), Option.none, Option.none, Option.none, Option.none, Option.none, Option.none, Option.none] (by
    rintro k d ρ hd ⟨j3, j4, j5, j6, j7, j8, j9, rfl⟩
    have hk : k < F.length := by have := (List.getElem?_eq_some_iff.mp hd).1; rw [List.length_map, pl_len] at this; exact this
    have hq : (pl F.length)[k]? = some (k + 1) := by unfold pl; simp [hk]
    rw [List.getElem?_map, hq] at hd
    cases hd
    have b := lost_body (S := S) O (p := k + 1) (by omega) (by omega) (L := ((pl (0 + k)).map fun q => wt F q * ((pp (tr F) F.length (pl? F) (clr (tr F) S q) : Nat) : Rat)).map encQ) (by simp [pl_len]; omega) (j3 := j3) (j4 := j4) (j5 := j5) (j6 := j6) (j7 := j7) (j8 := j8) (j9 := j9)
    refine ⟨_, _, rfl, .inl b, some (.val, .int ((k + 1 : Nat) : Int)), some (.val, .int ((sec F (k + 1)).up : Int)), some (.val, .int ((sec F (k + 1)).ppl : Int)), some (.val, encQ (sec F (k + 1)).w1), some (.val, encQ (sec F (k + 1)).w2), some (.val, .int ((pp (tr F) F.length (pl? F) (clr (tr F) S (k + 1)) : Nat) : Int)), j9, ?_⟩
    rw [Nat.zero_add, pl_succ, List.map_append, List.map_append]
    rfl) ⟨_, _, _, _, _, _, _, rfl⟩
  rw [List.length_map, pl_len, Nat.zero_add] at e
  have t := ltotal_ok ((pl F.length).map fun q => wt F q * ((pp (tr F) F.length (pl? F) (clr (tr F) S q) : Nat) : Rat)) (fun q m => by
      obtain ⟨x, hx, rfl⟩ := List.mem_map.mp m
      have := mem_pl.mp hx
      exact (term_sm O this.1 this.2 (pp_lt O _)).mono (by decide)) (fun k hk => by
      rw [← List.map_take]
      refine (sum_sm10 (fun q m => ?_) ?_).mono (by decide)
      · obtain ⟨x, hx, rfl⟩ := List.mem_map.mp m
        have := mem_pl.mp (List.mem_of_mem_take hx)
        exact term_sm O this.1 this.2 (pp_lt O _)
      · rw [List.length_map, List.length_take, pl_len]; omega)
  simp [-List.map_map, iR2_pl (n := F.length) (by omega), e, t]
  rfl
abbrev sav (F : List Sec) (S : List Nat) (p : Nat) : Nat := ns (pl? F) ((pl F.length).filter fun x => decide (clr (tr F) S p ∈ way (tr F) x) && !decide (p ∈ way (tr F) x))
theorem saves_body {S : List Nat} (O : OkF F) (h1 : 1 ≤ p) (h2 : p ≤ F.length) {q : Nat} (q1 : 1 ≤ q) (q2 : q ≤ F.length) {L : List PyData} (hL : L.length ≤ 10) (j7 j8 j9 j10 j11 : Option (Kd × PyData)) :
    ∃ j7' j8' j9' j10' j11', b__law_saves_1 [some (.val, encF F), some (.val, lN S), some (.val, .int (p : Int)), some (.val, lN (way (tr F) p)), some (.val, .int ((clr (tr F) S p : Nat) : Int)), some (.lst .val, .list L), some (.val, .int (q : Int)), j7, j8, j9, j10, j11] =
      some (.nx [some (.val, encF F), some (.val, lN S), some (.val, .int (p : Int)), some (.val, lN (way (tr F) p)), some (.val, .int ((clr (tr F) S p : Nat) : Int)),
        some (.lst .val, .list (if (decide (p ∈ way (tr F) q) && decide (clr (tr F) S q = clr (tr F) S p)) = true then L ++ [encQ (wt F q * (sav F S p : Rat))] else L)), some (.val, .int (q : Int)), j7', j8', j9', j10', j11']) := by
  unfold b__law_saves_1
  have hi := O.hi
  have e := at_p (F := F) q1 q2
  have e1 := lway_ok O q1 q2
  obtain ⟨x2, e2, e2'⟩ := head_ok (F := F) (p := q) (S := S) (w := 7) (v := 11) (ρ := [some (.val, encF F), some (.val, lN S), some (.val, .int (p : Int)), some (.val, lN (way (tr F) p)), some (.val, .int ((clr (tr F) S p : Nat) : Int)), some (.lst .val, .list L), some (.val, .int (q : Int)), some (.val, lN (way (tr F) q)), j8, j9, j10, j11]) rfl rfl (by simp) (by decide) (by decide) (by omega)
  have hin := dIn_N (l := way (tr F) q) (p := p)
  have heq : (((clr (tr F) S q : Nat) : Int) = ((clr (tr F) S p : Nat) : Int)) ↔ clr (tr F) S q = clr (tr F) S p := by omega
  by_cases hc : p ∈ way (tr F) q ∧ clr (tr F) S q = clr (tr F) S p
  · have hl := List.length_filter_le (fun x => decide (clr (tr F) S p ∈ way (tr F) x) && !decide (p ∈ way (tr F) x)) (pl F.length)
    rw [pl_len] at hl
    have e3 : eLc (iA iR2 (aCons (eC (.int 1)) (aCons (eOp dAdd (eCB dLen (aCons (eVar .any 0) aNil)) (eC (.int 1))) aNil))) (aName 11) (bAnd (bV (eOp (dIn false) (eVar .any 4) (eCB m__law_way (aCons (eVar .val 0) (aCons (eVar .val 11) aNil))))) (bV (eOp (dIn true) (eVar .any 2) (eCB m__law_way (aCons (eVar .val 0) (aCons (eVar .val 11) aNil)))))) (eVar .val 11) [11]
        [some (.val, encF F), some (.val, lN S), some (.val, .int (p : Int)), some (.val, lN (way (tr F) p)), some (.val, .int ((clr (tr F) S p : Nat) : Int)), some (.lst .val, .list L), some (.val, .int (q : Int)), some (.val, lN (way (tr F) q)), some (.val, .int ((clr (tr F) S q : Nat) : Int)), j9, j10, j11] =
        some (lN ((pl F.length).filter fun x => decide (clr (tr F) S p ∈ way (tr F) x) && !decide (p ∈ way (tr F) x))) := by
      rw [eLc_map (fun q : Nat => PyData.int (q : Int)) (fun q : Nat => PyData.int (q : Int)) (fun x => decide (clr (tr F) S p ∈ way (tr F) x) && !decide (p ∈ way (tr F) x)) id (pl F.length) (by simp [iR2_pl (n := F.length) (by omega)]) (by rw [pl_len]; unfold most; omega)]
      · rw [List.map_id, ← lN_map]
      · intro x m
        obtain ⟨x1, x2⟩ := mem_pl.mp m
        have e := lway_ok O x1 x2
        have h1 := dIn_N (l := way (tr F) x) (p := clr (tr F) S p)
        have h2 := dNotIn_N (l := way (tr F) x) (p := p)
        refine ⟨_, rfl, ?_, fun _ => ?_⟩
        · simp [-List.map_map, -dIn_ints, -dNotIn_ints, wipeE, e, h1, h2]
          split <;> simp_all
        · simp [wipeE]
    obtain ⟨x4, e4, e4'⟩ := ppl_sum (F := F) (i := iE asL (eVar .val 9)) (v := 11)
      (ρ := [some (.val, encF F), some (.val, lN S), some (.val, .int (p : Int)), some (.val, lN (way (tr F) p)), some (.val, .int ((clr (tr F) S p : Nat) : Int)), some (.lst .val, .list L), some (.val, .int (q : Int)), some (.val, lN (way (tr F) q)), some (.val, .int ((clr (tr F) S q : Nat) : Int)),
        some (.val, lN ((pl F.length).filter fun x => decide (clr (tr F) S p ∈ way (tr F) x) && !decide (p ∈ way (tr F) x))), j10, j11])
      (l := (pl F.length).filter fun x => decide (clr (tr F) S p ∈ way (tr F) x) && !decide (p ∈ way (tr F) x)) (by simp [-List.map_map]; exact List.map_map) (by unfold most; omega) (fun q m => mem_pl.mp (List.mem_filter.mp m).1) (by simp) (by decide) rfl
    have e5 := t1_ok ltimes_ok O q1 q2
    have e6 := t2_ok ltimes_ok O q1 q2 (m := sav F S p) (ns_lt O _)
    have hL' : L.length < 16777216 := by omega
    refine ⟨some (.val, lN (way (tr F) q)), some (.val, .int ((clr (tr F) S q : Nat) : Int)), some (.val, lN ((pl F.length).filter fun x => decide (clr (tr F) S p ∈ way (tr F) x) && !decide (p ∈ way (tr F) x))), some (.val, .int ((sav F S p : Nat) : Int)), j11, ?_⟩
    simp only [sav] at e6 ⊢
    rw [if_pos (by simp [hc.1, hc.2])]
    simp [-List.map_map, -dIn_ints, e, e1, e2, e2', hin, hc.1, hc.2] at e3 e4 ⊢
    simp [-List.map_map, -dIn_ints, e3, e4, e4', e5, e6, hL', e]
  · refine ⟨some (.val, lN (way (tr F) q)), some (.val, .int ((clr (tr F) S q : Nat) : Int)), j9, j10, j11, ?_⟩
    rw [if_neg (by simpa using hc)]
    by_cases hp : p ∈ way (tr F) q
    · have hn : ¬ clr (tr F) S q = clr (tr F) S p := fun z => hc ⟨hp, z⟩
      have hn' : ¬ ((clr (tr F) S q : Nat) : Int) = ((clr (tr F) S p : Nat) : Int) := by omega
      simp [-List.map_map, -dIn_ints, e, e1, e2, e2', hin, hp, hn, hn']
    · simp [-List.map_map, -dIn_ints, e, e1, e2, e2', hin, hp]
theorem lsaves_ok {S : List Nat} (O : OkF F) (h1 : 1 ≤ p) (h2 : p ≤ F.length) : m__law_saves [encF F, lN S, .int (p : Int)] = some (encQ (if p ∈ S ∨ (tr F).U p = 0 then 0 else save (tr F) F.length (pl? F) (wt F) S p)) := by
  unfold m__law_saves g__law_saves
  have hi := O.hi
  have e := at_p (F := F) h1 h2
  have u := U_eq O h1 h2
  have hin := dIn_N (l := S) (p := p)
  by_cases hS : p ∈ S
  · rw [if_pos (.inl hS)]
    simp [-dIn_ints, hin, hS, encQ_0]
  · by_cases hu : (tr F).U p = 0
    · rw [if_pos (.inr hu)]
      have u0 : (sec F p).up = 0 := by omega
      simp [-dIn_ints, hin, hS, e, u0, encQ_0]
    · rw [if_neg (by simp [hS, hu])]
      have u0 : ¬ (sec F p).up = 0 := by omega
      have e1 := lway_ok O h1 h2
      obtain ⟨x2, e2, e2'⟩ := head_ok (F := F) (p := p) (S := S) (w := 3) (v := 6) (ρ := [some (.val, encF F), some (.val, lN S), some (.val, .int (p : Int)), some (.val, lN (way (tr F) p)), Option.none, Option.none, Option.none, Option.none, Option.none, Option.none, Option.none, Option.none]) rfl rfl (by simp) (by decide) (by decide) (by omega)
      obtain ⟨ρ', e3, j6, j7, j8, j9, j10, j11, rfl⟩ := for_ix (a := aName 6) (b := b__law_saves_1)
        (fun n ρ => ∃ j6 j7 j8 j9 j10 j11, ρ = [some (.val, encF F), some (.val, lN S), some (.val, .int (p : Int)), some (.val, lN (way (tr F) p)), some (.val, .int ((clr (tr F) S p : Nat) : Int)),
          some (.lst .val, .list ((((pl n).filter fun q => decide (p ∈ way (tr F) q) && decide (clr (tr F) S q = clr (tr F) S p)).map fun q => wt F q * (sav F S p : Rat)).map encQ)), j6, j7, j8, j9, j10, j11]) ((pl F.length).map fun q : Nat => PyData.int (q : Int)) 0
        [some (.val, encF F), some (.val, lN S), some (.val, .int (p : Int)), some (.val, lN (way (tr F) p)), some (.val, .int ((clr (tr F) S p : Nat) : Int)), some (.lst .val, .list []), Option.none, Option.none, Option.none, Option.none, Option.none, Option.none] (by
        rintro k d ρ hd ⟨j6, j7, j8, j9, j10, j11, rfl⟩
        have hk : k < F.length := by have := (List.getElem?_eq_some_iff.mp hd).1; rw [List.length_map, pl_len] at this; exact this
        have hq : (pl F.length)[k]? = some (k + 1) := by unfold pl; simp [hk]
        rw [List.getElem?_map, hq] at hd
        cases hd
        have hl := List.length_filter_le (fun q => decide (p ∈ way (tr F) q) && decide (clr (tr F) S q = clr (tr F) S p)) (pl k)
        rw [pl_len] at hl
        obtain ⟨i7, i8, i9, i10, i11, b⟩ := saves_body (S := S) O h1 h2 (q := k + 1) (by omega) (by omega) (L := (((pl k).filter fun q => decide (p ∈ way (tr F) q) && decide (clr (tr F) S q = clr (tr F) S p)).map fun q => wt F q * (sav F S p : Rat)).map encQ) (by simp only [List.length_map]; omega) j7 j8 j9 j10 j11
        refine ⟨_, _, rfl, .inl (by rw [Nat.zero_add]; exact b), some (.val, .int ((k + 1 : Nat) : Int)), i7, i8, i9, i10, i11, ?_⟩
        rw [Nat.zero_add, pl_succ, List.filter_append]
        by_cases z : (decide (p ∈ way (tr F) (k + 1)) && decide (clr (tr F) S (k + 1) = clr (tr F) S p)) = true
        · rw [if_pos z]
          simp only [List.filter_cons, z, if_true, List.map_append, List.filter_nil, List.map_cons, List.map_nil]
        · rw [if_neg z]
          rw [show List.filter (fun q => decide (p ∈ way (tr F) q) && decide (clr (tr F) S q = clr (tr F) S p)) [k + 1] = [] by rw [List.filter_cons, if_neg z]; rfl, List.append_nil]) ⟨_, _, _, _, _, _, rfl⟩
      rw [List.length_map, pl_len, Nat.zero_add] at e3
      have hl := List.length_filter_le (fun q => decide (p ∈ way (tr F) q) && decide (clr (tr F) S q = clr (tr F) S p)) (pl F.length)
      rw [pl_len] at hl
      have t := ltotal_ok (((pl F.length).filter fun q => decide (p ∈ way (tr F) q) && decide (clr (tr F) S q = clr (tr F) S p)).map fun q => wt F q * (sav F S p : Rat)) (fun q m => by
          obtain ⟨x, hx, rfl⟩ := List.mem_map.mp m
          have := mem_pl.mp (List.mem_filter.mp hx).1
          exact (term_sm O this.1 this.2 (ns_lt O _)).mono (by decide)) (fun k hk => by
          rw [← List.map_take]
          refine (sum_sm10 (fun q m => ?_) ?_).mono (by decide)
          · obtain ⟨x, hx, rfl⟩ := List.mem_map.mp m
            have := mem_pl.mp (List.mem_filter.mp (List.mem_of_mem_take hx)).1
            exact term_sm O this.1 this.2 (ns_lt O _)
          · rw [List.length_map, List.length_take]; omega)
      simp [-List.map_map, -dIn_ints, hin, hS, e, u0, e1, e2, e2', iR2_pl (n := F.length) (by omega), e3, t]
      rfl
end
end DL

/-! K35e: feeders that are made; the law. -/
namespace DL
open PySem PySem.Spec PyProof.Rows L2 K35
theorem mkRat_nn {n : Int} {d : Nat} (h : 0 < d) (hn : 0 ≤ n) : 0 ≤ mkRat n d := by
  rw [← Rat.num_nonneg, (mkRat_parts n h).1]
  exact Int.ediv_nonneg hn (by omega)
theorem mix_nat {ds : List Int} (D : Drawn ds) {k many : Int} (h0 : 0 ≤ k) (h1 : k < 2 ^ 40) (hm : 0 < many) : ∃ a : Nat, (a : Int) < many ∧ m__law_mix [lI ds, .int k, .int many] = some (.int (a : Int)) := by
  have lo := mixV_lo ds k hm
  have hi := mixV_hi ds k hm
  refine ⟨(mixV ds k many).toNat, by omega, ?_⟩
  rw [mix_ok D h0 h1 hm]
  congr 2
  omega
theorem feeder_ok {ds : List Int} (D : Drawn ds) {k : Int} (h0 : 0 ≤ k) (h1 : k < 2 ^ 30) : ∃ F, OkF F ∧ m__law_feeder [lI ds, .int k, .int 10] = some (encF F) := by
  obtain ⟨n, hn, en⟩ := mix_nat D h0 (by omega) (show (0 : Int) < 10 by decide)
  obtain ⟨ρ', e, F, j4, j5, rfl, f1, f2, f3⟩ := for_ix (a := aName 4) (b := b__law_feeder_1)
    (fun m ρ => ∃ (F : List Sec) (j4 j5 : Option (Kd × PyData)), ρ = [some (.val, lI ds), some (.val, .int k), some (.val, .int 10), some (.lst .val, encF F), j4, j5] ∧ F.length = m ∧ (∀ (t : Nat) (s : Sec), F[t]? = some s → s.up ≤ t) ∧ ∀ s ∈ F, OkS s)
    ((List.range (n + 1)).map fun i => PyData.int ((i : Nat) : Int)) 0 [some (.val, lI ds), some (.val, .int k), some (.val, .int 10), some (.lst .val, .list []), Option.none, Option.none] (by
    rintro t d ρ hd ⟨F, j4, j5, rfl, f1, f2, f3⟩
    have ht : t < n + 1 := by have := (List.getElem?_eq_some_iff.mp hd).1; simpa using this
    rw [List.getElem?_map, List.getElem?_range ht] at hd
    cases hd
    obtain ⟨a1, b1, e1⟩ := mix_nat D (k := k + 1 + 5 * (t : Int)) (by omega) (by omega) (show (0 : Int) < (t : Int) + 1 by omega)
    obtain ⟨a2, b2, e2⟩ := mix_nat D (k := k + 2 + 5 * (t : Int)) (by omega) (by omega) (show (0 : Int) < 20 by decide)
    obtain ⟨a3, b3, e3⟩ := mix_nat D (k := k + 3 + 5 * (t : Int)) (by omega) (by omega) (show (0 : Int) < 7 by decide)
    obtain ⟨a4, b4, e4⟩ := mix_nat D (k := k + 4 + 5 * (t : Int)) (by omega) (by omega) (show (0 : Int) < 3 by decide)
    obtain ⟨a5, b5, e5⟩ := mix_nat D (k := k + 5 + 5 * (t : Int)) (by omega) (by omega) (show (0 : Int) < 6 by decide)
    have l1 := low_ok (a3 : Int) (1 + a4) (by omega) (Nat.lt_of_le_of_lt (log2_mono (show 1 + a4 ≤ 3 by omega)) (by decide))
    have l2 := low_ok (a5 : Int) 2 (by omega) (by decide)
    rw [show ((1 + a4 : Nat) : Int) = 1 + (a4 : Int) by omega] at l1
    rw [show ((2 : Nat) : Int) = 2 from rfl] at l2
    have c5 : cMul 5 (t : Int) = true := cMul_60 (by omega) (by omega) (by omega) (by omega)
    have len : F.length < 16777216 := by omega
    refine ⟨_, [some (.val, lI ds), some (.val, .int k), some (.val, .int 10), some (.lst .val, encF (F ++ [⟨a1, a2, mkRat a3 (1 + a4), mkRat a5 2⟩])), some (.val, .int (t : Int)), some (.val, encQ (mkRat a3 (1 + a4)))], rfl, .inl ?_, _, _, _, rfl, by simp [f1], ?_, ?_⟩
    · unfold b__law_feeder_1
      simp [e1, e2, e3, e4, e5, l1, l2, c5, len, encS]
    · intro t' s hs
      by_cases hl : t' < F.length
      · rw [List.getElem?_append_left hl] at hs
        exact f2 t' s hs
      · have : t' = F.length := by have := (List.getElem?_eq_some_iff.mp hs).1; simp at this; omega
        subst this
        simp at hs
        subst hs
        simp
        omega
    · intro s hs
      rcases List.mem_append.mp hs with hs | hs
      · exact f3 s hs
      · simp at hs
        subst hs
        have q1 : Sm 3 (mkRat (a3 : Int) (1 + a4)) := Sm.mk' (by omega) (by rw [Int.natAbs_natCast]; omega) (by omega)
        have q2 : Sm 3 (mkRat (a5 : Int) 2) := Sm.mk' (by omega) (by rw [Int.natAbs_natCast]; omega) (by omega)
        exact ⟨by show a2 < 20; omega, mkRat_nn (by omega) (by omega), mkRat_nn (by omega) (by omega), q1, q2⟩) ⟨[], Option.none, Option.none, rfl, rfl, by simp, by simp⟩
  simp at f1
  refine ⟨F, ⟨by omega, by omega, f2, f3⟩, ?_⟩
  unfold m__law_feeder g__law_feeder
  have er : iR1 [.int (1 + (n : Int))] = some ((List.range (n + 1)).map fun i => PyData.int ((i : Nat) : Int)) := by
    have := iR1_ap (n := n + 1) (by unfold most; omega)
    rw [show ((n + 1 : Nat) : Int) = 1 + (n : Int) by omega] at this
    exact this
  simp [en, er, e]
section
variable {F : List Sec} {p : Nat}
def gn (F : List Sec) (S : List Nat) (p : Nat) : Rat := if p ∈ S ∨ (tr F).U p = 0 then 0 else save (tr F) F.length (pl? F) (wt F) S p
theorem wt_all (O : OkF F) (q : Nat) : 0 ≤ wt F q := by
  by_cases h : q - 1 < F.length
  · have : sec F q ∈ F := by
      unfold sec
      rw [List.getD_eq_getElem?_getD, List.getElem?_eq_getElem h]
      exact List.getElem_mem h
    exact Rat.mul_nonneg (O.s _ this).w1 (O.s _ this).w2
  · have : sec F q = default := by
      unfold sec
      rw [List.getD_eq_getElem?_getD, List.getElem?_eq_none (by omega)]
      rfl
    show 0 ≤ (sec F q).w1 * (sec F q).w2
    rw [this]
    show (0 : Rat) ≤ 0 * 0
    simp
theorem gn_nn (O : OkF F) (S : List Nat) : 0 ≤ gn F S p := by
  unfold gn
  split
  · exact Rat.le_refl
  · exact save_nonneg _ (wt_all O)
theorem gn_sm (O : OkF F) (S : List Nat) : Sm 400 (gn F S p) := by
  unfold gn
  split
  · exact Sm.mono (a := 1) (q := 0) ⟨by decide, by decide⟩ (by omega)
  · rename_i h
    have h1 : p ∉ S := fun z => h (.inl z)
    rw [← save_lost (tr F) (S' := S ++ [p]) h1 (fun z => h (.inr z)) (fun x => by simp)]
    exact ((lost_sm O S).sub (lost_sm O (S ++ [p]))).mono (by decide)
theorem gn_mono (O : OkF F) {S M : List Nat} (sub : ∀ x ∈ S, x ∈ M) (hp : p ∉ M) : gn F M p ≤ gn F S p := by
  unfold gn
  by_cases hu : (tr F).U p = 0
  · rw [if_pos (.inr hu), if_pos (.inr hu)]
    exact Rat.le_refl
  · rw [if_neg (by simp [hp, hu]), if_neg (by rintro (z | z); exact hp (sub p z); exact hu z)]
    exact save_mono _ (wt_all O) sub
theorem srd_nat {l : List Int} {S : List Nat} (h : ∀ z, z ∈ l ↔ z ∈ nI S) : ∃ M : List Nat, srd l = nI M ∧ M.Pairwise (· < ·) ∧ ∀ x, x ∈ M ↔ x ∈ S := by
  have mm : ∀ z, z ∈ srd l ↔ z ∈ nI S := fun z => by rw [mem_srd, h]
  have e : srd l = nI ((srd l).map Int.toNat) := by
    have nn : ∀ i ∈ srd l, 0 ≤ i := fun i m => by
      obtain ⟨x, _, rfl⟩ := List.mem_map.mp ((mm i).mp m)
      omega
    generalize srd l = L at nn
    induction L with
    | nil => rfl
    | cons x r ih =>
      have := nn x (by simp)
      have i2 := ih fun i m => nn i (List.mem_cons_of_mem _ m)
      simp only [nI, List.map_cons] at i2 ⊢
      rw [← i2]
      congr 1
      omega
  refine ⟨_, e, ?_, fun x => ?_⟩
  · have := srd_sorted l
    rw [e] at this
    refine (List.pairwise_map.mp this).imp fun h => ?_
    omega
  · rw [← mem_nI, ← e, mm, mem_nI]
theorem gn_q {S : List Nat} (O : OkF F) : Siz 1 3 (encQ (gn F S p)) := siz_q (gn_sm O S) (by decide)
theorem ok_places {f : Nat → Bool} (O : OkF F) : okR (lN ((pl F.length).filter f)) = true := by
  have hl := List.length_filter_le f (pl F.length)
  rw [pl_len] at hl
  have hi := O.hi
  exact (siz_N (l := (pl F.length).filter f) fun i m => by have := mem_pl.mp (List.mem_filter.mp m).1; omega).okR (by decide) (by omega)
def ableF (F : List Sec) : List Nat := (pl F.length).filter fun q => decide ((sec F q).up ≠ 0)
theorem law_b1 {ds : List Int} {S : List Nat} (D : Drawn ds) (O : OkF F) (W : OkW F S) (h1 : 1 ≤ p) (h2 : p ≤ F.length) {x0 x5 x8 : Option (Kd × PyData)} {t a : Nat} (ha : a < 4) (j10 j11 j12 j13 j14 : Option (Kd × PyData)) :
    ∃ j10' j11' j12' j13' j14', b_law_1 [x0, some (.val, lI ds), some (.val, .int (t : Int)), some (.val, encF F), some (.val, lN (ableF F)), x5, some (.val, .int (a : Int)), some (.val, lN S), x8, some (.val, .int (p : Int)), j10, j11, j12, j13, j14] =
      some (.nx [x0, some (.val, lI ds), some (.val, .int (t : Int)), some (.val, encF F), some (.val, lN (ableF F)), x5, some (.val, .int (a : Int)), some (.val, lN S), x8, some (.val, .int (p : Int)), j10', j11', j12', j13', j14']) := by
  unfold b_law_1
  have hi := O.hi
  have u := U_eq O h1 h2
  have e1 := out_for_ok O W h1 h2
  have e2 := lout_ok (S := S) O h1 h2
  have r1 := ok_places (f := fun q => decide (clr (tr F) S p ∈ way (tr F) q)) O
  have l1 := List.length_filter_le (fun q => decide (clr (tr F) S p ∈ way (tr F) q)) (pl F.length)
  rw [pl_len] at l1
  have l1' : ((pl F.length).filter (fun q => decide (clr (tr F) S p ∈ way (tr F) q))).length < 16777216 := by omega
  have e3 : m_saved [encF F, lN S, .int (p : Int)] = some (encQ (gn F S p)) := saved_ok O W h1 h2
  have e4 : m__law_saves [encF F, lN S, .int (p : Int)] = some (encQ (gn F S p)) := lsaves_ok (S := S) O h1 h2
  have r2 : okR (encQ (gn F S p)) = true := (gn_q O).okR (by decide) (by decide)
  have i0 : dIx (encQ (gn F S p)) (.int 0) = some (.int (gn F S p).num) := by simp [encQ]
  have nn : ¬ (gn F S p).num < 0 := by have := Rat.num_nonneg.mpr (gn_nn (p := p) O S); omega
  -- more
  have la : (ableF F).length ≤ F.length := by
    have := List.length_filter_le (fun q => decide ((sec F q).up ≠ 0)) (pl F.length)
    rw [pl_len] at this
    exact this
  have ls := w_len O W
  have ex : ∃ fm : Nat → Bool, ∀ q : Nat, 1 ≤ q → q ≤ F.length → m__law_mix [lI ds, .int (360 + 12 * (a : Int) + (q : Int)), .int 2] = some (.int (if fm q = true then 0 else 1)) := by
    refine ⟨fun q => decide (mixV ds (360 + 12 * (a : Int) + (q : Int)) 2 = 0), fun q q1 q2 => ?_⟩
    have lo := mixV_lo ds (360 + 12 * (a : Int) + (q : Int)) (many := 2) (by decide)
    have hi := mixV_hi ds (360 + 12 * (a : Int) + (q : Int)) (many := 2) (by decide)
    rw [mix_ok D (by omega) (by omega) (by decide)]
    by_cases z : mixV ds (360 + 12 * (a : Int) + (q : Int)) 2 = 0
    · simp [z]
    · have : mixV ds (360 + 12 * (a : Int) + (q : Int)) 2 = 1 := by omega
      simp [this]
  obtain ⟨fm, hfm⟩ := ex
  have c12 : cMul 12 (a : Int) = true := cMul_60 (by omega) (by omega) (by omega) (by omega)
  have lm := List.length_filter_le (fun q => decide (q ≠ p) && fm q) (ableF F)
  have em : ∀ (x10 x11 x12 x13 x14 : Option (Kd × PyData)), eLc (iE asL (eVar .val 4)) (aName 14) (bAnd (bV (eOp dNe (eVar .any 14) (eVar .any 9))) (bV (eOp dEq (eCB m__law_mix (aCons (eVar .val 1) (aCons (eOp dAdd (eOp dAdd (eC (.int 360)) (eOp dMul (eC (.int 12)) (eVar .any 6))) (eVar .any 14)) (aCons (eC (.int 2)) aNil)))) (eC (.int 0))))) (eVar .val 14) [14]
      [x0, some (.val, lI ds), some (.val, .int (t : Int)), some (.val, encF F), some (.val, lN (ableF F)), x5, some (.val, .int (a : Int)), some (.val, lN S), x8, some (.val, .int (p : Int)), x10, x11, x12, x13, x14] = some (lN ((ableF F).filter fun q => decide (q ≠ p) && fm q)) := by
    intro x10 x11 x12 x13 x14
    rw [eLc_map (fun q : Nat => PyData.int (q : Int)) (fun q : Nat => PyData.int (q : Int)) (fun q => decide (q ≠ p) && fm q) id (ableF F) (by simp [-List.map_map]; exact List.map_map) (by unfold most; omega)]
    · rw [List.map_id, ← lN_map]
    · intro q m
      have b := mem_pl.mp (List.mem_filter.mp m).1
      have e := hfm q b.1 b.2
      refine ⟨_, rfl, ?_, fun _ => ?_⟩
      · by_cases hq : q = p
        · subst hq; simp [wipeE]
        · have hq' : ¬ ((q : Nat) : Int) = (p : Int) := by omega
          by_cases hf : fm q = true
          · simp [wipeE, hq, hq', hf, e, c12]
          · simp [wipeE, hq, hq', hf, e, c12]
      · simp [wipeE]
  generalize hA2 : ((ableF F).filter fun q => decide (q ≠ p) && fm q) = A2 at em lm
  have lc : S.length + A2.length ≤ 16777216 := by omega
  obtain ⟨M, eM, incM, mM⟩ := srd_nat (l := nI S ++ nI A2) (S := S ++ A2) (by simp [nI])
  have lc64 : (nI S ++ nI A2).length < 64 := by simp only [nI, List.length_append, List.length_map]; omega
  have eS : dSrd [.list ((nI S).map PyData.int ++ (nI A2).map PyData.int)] = some (lN M) := by
    have := dSrd_ap (ns := nI S ++ nI A2)
    rw [if_pos lc64, eM, List.map_append] at this
    exact this
  have WM : OkW F M := ⟨incM, fun q m => by
      rcases List.mem_append.mp ((mM q).mp m) with z | z
      · exact W.pl q z
      · rw [← hA2] at z
        exact mem_pl.mp (List.mem_filter.mp (List.mem_filter.mp z).1).1, fun q m => by
      rcases List.mem_append.mp ((mM q).mp m) with z | z
      · exact W.up q z
      · rw [← hA2] at z
        have z1 := List.mem_filter.mp (List.mem_filter.mp z).1
        have b := mem_pl.mp z1.1
        rw [U_eq O b.1 b.2]
        simpa using z1.2⟩
  have sM : ∀ x ∈ S, x ∈ M := fun x m => (mM x).mpr (List.mem_append_left _ m)
  have e5 : m_saved [encF F, lN M, .int (p : Int)] = some (encQ (gn F M p)) := saved_ok O WM h1 h2
  have hin := dIn_N (l := S) (p := p)
  have hnin := dNotIn_N (l := S) (p := p)
  have hina := dIn_N (l := ableF F) (p := p)
  by_cases hS : p ∈ S
  · refine ⟨some (.lst .val, .list ((nI ((pl F.length).filter fun q => decide (clr (tr F) S p ∈ way (tr F) q))).map PyData.int ++ [.int (-1)])), some (.val, encQ (gn F S p)), some (.val, lN M), j13, j14, ?_⟩
    simp [-List.map_map, -dIn_ints, -dNotIn_ints, e1, e2, r1, l1', e3, e4, r2, i0, nn, em, lc, eS, hin, hnin, hS, hina]
  · have hpM : p ∉ M := fun z => by
      rcases List.mem_append.mp ((mM p).mp z) with z | z
      · exact hS z
      · rw [← hA2] at z
        have := (List.mem_filter.mp z).2
        simp at this
    have e6 := lless_ok ((gn_sm (p := p) O S).mono (show 400 ≤ 4000 by decide)) ((gn_sm (p := p) O M).mono (show 400 ≤ 4000 by decide))
    have nl : ¬ gn F S p < gn F M p := Rat.not_lt.mpr (gn_mono O sM hpM)
    by_cases hu : (sec F p).up = 0
    · refine ⟨some (.lst .val, .list ((nI ((pl F.length).filter fun q => decide (clr (tr F) S p ∈ way (tr F) q))).map PyData.int ++ [.int (-1)])), some (.val, encQ (gn F S p)), some (.val, lN M), j13, j14, ?_⟩
      have pa : p ∉ ableF F := fun z => by have := (List.mem_filter.mp z).2; simp [hu] at this
      simp [-List.map_map, -dIn_ints, -dNotIn_ints, e1, e2, r1, l1', e3, e4, e5, e6, nl, r2, i0, nn, em, lc, eS, hin, hnin, hS, hina, pa]
    · have pa : p ∈ ableF F := List.mem_filter.mpr ⟨mem_pl.mpr ⟨h1, h2⟩, by simp [hu]⟩
      have hu' : (tr F).U p ≠ 0 := by rw [u]; exact hu
      obtain ⟨S', es, mS⟩ := srt_nat (l := nI S ++ [(p : Int)]) (S := S ++ [p]) (by simp [nI])
      have ed : dSorted [.list ((nI S).map PyData.int ++ [.int (p : Int)])] = some (lN S') := by
        have := dSorted_ap (ns := nI S ++ [(p : Int)])
        rw [es, List.map_append] at this
        exact this
      have e7 := llost_ok (S := S') O
      have e8 := llost_ok (S := S) O
      have e9 := lplus_ok ((lost_sm O S').mono (show 160 ≤ 4000 by decide)) ((gn_sm (p := p) O S).mono (show 400 ≤ 4000 by decide))
      have hg : gn F S p = save (tr F) F.length (pl? F) (wt F) S p := if_neg (by rintro (z | z); exact hS z; exact hu' z)
      have hsum : lost (tr F) F.length (pl? F) (wt F) S' + gn F S p = lost (tr F) F.length (pl? F) (wt F) S := by
        rw [hg, ← save_lost (tr F) hS hu' (S' := S') (fun x => by rw [mS]; simp)]
        grind
      rw [hsum] at e9
      have en := dNe_self (siz_q (lost_sm O S) (by decide)) (show 1 ≤ 64 by decide)
      have ls1 : S.length + 1 ≤ 16777216 := by omega
      refine ⟨some (.lst .val, .list ((nI ((pl F.length).filter fun q => decide (clr (tr F) S p ∈ way (tr F) q))).map PyData.int ++ [.int (-1)])), some (.val, encQ (gn F S p)), some (.val, lN M), some (.val, encQ (lost (tr F) F.length (pl? F) (wt F) S')), j14, ?_⟩
      simp [-List.map_map, -dIn_ints, -dNotIn_ints, e1, e2, r1, l1', e3, e4, e5, e6, nl, r2, i0, nn, em, lc, eS, hin, hnin, hS, hina, pa, ls1, ed, e7, e8, e9, en]
theorem pl_inc : ∀ n : Nat, (pl n).Pairwise (· < ·)
  | 0 => List.Pairwise.nil
  | n + 1 => by
    rw [pl_succ, List.pairwise_append]
    refine ⟨pl_inc n, List.pairwise_singleton .., fun x hx y hy => ?_⟩
    have := mem_pl.mp hx
    simp at hy
    omega
theorem siz_F (O : OkF F) : okR (encF F) = true := by
  have h := siz_lst (siza_map (n := 2) (z := 10) encS F fun s m => by
    have o := O.s s m
    have u : s.up < 2 ^ 10 := by
      obtain ⟨t, ht⟩ := List.mem_iff_getElem?.mp m
      have := O.up t s ht
      have := (List.getElem?_eq_some_iff.mp ht).1
      have := O.hi
      omega
    have pp := o.ppl
    exact (siz_tup (siza_cons (n := 1) ((siz_int (i := (s.up : Int)) (a := 10) (by rw [Int.natAbs_natCast]; exact u) (by decide)).mono (by decide) (Nat.le_refl _)) (siza_cons ((siz_int (i := (s.ppl : Int)) (a := 10) (by rw [Int.natAbs_natCast]; omega) (by decide)).mono (by decide) (Nat.le_refl _))
      (siza_cons (siz_q o.s1 (by decide)) (siza_cons (siz_q o.s2 (by decide)) siza_nil))))).mono (by decide) (by decide))
  have := O.hi
  exact h.okR (by decide) (by omega)
theorem law_b2 {ds : List Int} (D : Drawn ds) (O : OkF F) {x0 : Option (Kd × PyData)} {t a : Nat} (ht : t < 3) (ha : a < 4) (j7 j8 j9 j10 j11 j12 j13 j14 : Option (Kd × PyData)) :
    ∃ j7' j8' j9' j10' j11' j12' j13' j14', b_law_2 [x0, some (.val, lI ds), some (.val, .int (t : Int)), some (.val, encF F), some (.val, lN (ableF F)), some (.val, .str (encF F).shown), some (.val, .int (a : Int)), j7, j8, j9, j10, j11, j12, j13, j14] =
      some (.nx [x0, some (.val, lI ds), some (.val, .int (t : Int)), some (.val, encF F), some (.val, lN (ableF F)), some (.val, .str (encF F).shown), some (.val, .int (a : Int)), j7', j8', j9', j10', j11', j12', j13', j14']) := by
  have hi := O.hi
  have la : (ableF F).length ≤ F.length := by
    have := List.length_filter_le (fun q => decide ((sec F q).up ≠ 0)) (pl F.length)
    rw [pl_len] at this
    exact this
  have c12 : cMul 12 (a : Int) = true := cMul_60 (by omega) (by omega) (by omega) (by omega)
  have c50 : cMul 50 (t : Int) = true := cMul_60 (by omega) (by omega) (by omega) (by omega)
  have e1 : eLc (iE asL (eVar .val 4)) (aName 9) (bV (eOp dEq (eCB m__law_mix (aCons (eVar .val 1) (aCons (eOp dAdd (eOp dAdd (eOp dAdd (eC (.int 200)) (eOp dMul (eC (.int 50)) (eVar .any 2))) (eOp dMul (eC (.int 12)) (eVar .any 6))) (eVar .any 9)) (aCons (eC (.int 3)) aNil)))) (eC (.int 0)))) (eVar .val 9) [9]
      [x0, some (.val, lI ds), some (.val, .int (t : Int)), some (.val, encF F), some (.val, lN (ableF F)), some (.val, .str (encF F).shown), some (.val, .int (a : Int)), j7, j8, j9, j10, j11, j12, j13, j14] = some (lN ((ableF F).filter fun q : Nat => decide (mixV ds (200 + 50 * (t : Int) + 12 * (a : Int) + (q : Int)) 3 = 0))) := by
    rw [eLc_map (fun q : Nat => PyData.int (q : Int)) (fun q : Nat => PyData.int (q : Int)) (fun q : Nat => decide (mixV ds (200 + 50 * (t : Int) + 12 * (a : Int) + (q : Int)) 3 = 0)) id (ableF F) (by simp [-List.map_map]; exact List.map_map) (by unfold most; omega)]
    · rw [List.map_id, ← lN_map]
    · intro q m
      have b := mem_pl.mp (List.mem_filter.mp m).1
      have e := mix_ok D (k := 200 + 50 * (t : Int) + 12 * (a : Int) + (q : Int)) (by omega) (by omega) (show (0 : Int) < 3 by decide)
      refine ⟨_, rfl, ?_, fun _ => ?_⟩
      · simp [wipeE, e, c12, c50]
      · simp [wipeE]
  have lS := List.length_filter_le (fun q : Nat => decide (mixV ds (200 + 50 * (t : Int) + 12 * (a : Int) + (q : Int)) 3 = 0)) (ableF F)
  have W : OkW F ((ableF F).filter fun q : Nat => decide (mixV ds (200 + 50 * (t : Int) + 12 * (a : Int) + (q : Int)) 3 = 0)) := ⟨((pl_inc _).filter _).filter _, fun q m => mem_pl.mp (List.mem_filter.mp (List.mem_filter.mp m).1).1, fun q m => by
    have z := List.mem_filter.mp (List.mem_filter.mp m).1
    have b := mem_pl.mp z.1
    rw [U_eq O b.1 b.2]
    simpa using z.2⟩
  generalize ((ableF F).filter fun q : Nat => decide (mixV ds (200 + 50 * (t : Int) + 12 * (a : Int) + (q : Int)) 3 = 0)) = S at e1 lS W
  have rS : okR (lN S) = true := (siz_N (l := S) fun i m => by have := W.pl i m; omega).okR (by decide) (by omega)
  have e2 := lost_hours_ok O W
  have e3 := llost_ok (S := S) O
  have r2 : okR (encQ (lost (tr F) F.length (pl? F) (wt F) S)) = true := (siz_q (lost_sm O S) (by decide)).okR (by decide) (by decide)
  have rF := siz_F O
  obtain ⟨ρ', e4, i9, i10, i11, i12, i13, i14, rfl⟩ := for_ix (a := aName 9) (b := b_law_1)
    (fun n ρ => ∃ j9 j10 j11 j12 j13 j14, ρ = [x0, some (.val, lI ds), some (.val, .int (t : Int)), some (.val, encF F), some (.val, lN (ableF F)), some (.val, .str (encF F).shown), some (.val, .int (a : Int)), some (.val, lN S), some (.val, .str (lN S).shown), j9, j10, j11, j12, j13, j14]) ((pl F.length).map fun q : Nat => PyData.int (q : Int)) 0
    [x0, some (.val, lI ds), some (.val, .int (t : Int)), some (.val, encF F), some (.val, lN (ableF F)), some (.val, .str (encF F).shown), some (.val, .int (a : Int)), some (.val, lN S), some (.val, .str (lN S).shown), j9, j10, j11, j12, j13, j14] (by
    rintro k d ρ hd ⟨j9, j10, j11, j12, j13, j14, rfl⟩
    have hk : k < F.length := by have := (List.getElem?_eq_some_iff.mp hd).1; rw [List.length_map, pl_len] at this; exact this
    have hq : (pl F.length)[k]? = some (k + 1) := by unfold pl; simp [hk]
    rw [List.getElem?_map, hq] at hd
    cases hd
    obtain ⟨i10, i11, i12, i13, i14, b⟩ := law_b1 (t := t) (x0 := x0) (x5 := some (.val, .str (encF F).shown)) (x8 := some (.val, .str (lN S).shown)) D O W (p := k + 1) (by omega) (by omega) ha j10 j11 j12 j13 j14
    exact ⟨_, _, rfl, .inl b, _, _, _, _, _, _, rfl⟩) ⟨_, _, _, _, _, _, rfl⟩
  refine ⟨some (.val, lN S), some (.val, .str (lN S).shown), i9, i10, i11, i12, i13, i14, ?_⟩
  unfold b_law_2
  simp [-List.map_map, e1, e2, e3, e4, rS, r2, rF, iR2_pl (n := F.length) (by omega)]
theorem law_b3 {ds : List Int} (D : Drawn ds) {x0 : Option (Kd × PyData)} {t : Nat} (ht : t < 3) (j3 j4 j5 j6 j7 j8 j9 j10 j11 j12 j13 j14 : Option (Kd × PyData)) :
    ∃ j3' j4' j5' j6' j7' j8' j9' j10' j11' j12' j13' j14', b_law_3 [x0, some (.val, lI ds), some (.val, .int (t : Int)), j3, j4, j5, j6, j7, j8, j9, j10, j11, j12, j13, j14] =
      some (.nx [x0, some (.val, lI ds), some (.val, .int (t : Int)), j3', j4', j5', j6', j7', j8', j9', j10', j11', j12', j13', j14']) := by
  obtain ⟨F, O, e1⟩ := feeder_ok D (k := 10 + 60 * (t : Int)) (by omega) (by omega)
  have hi := O.hi
  have c60 : cMul 60 (t : Int) = true := cMul_60 (by omega) (by omega) (by omega) (by omega)
  have rF := siz_F O
  have e2 : eLc (iA iR2 (aCons (eC (.int 1)) (aCons (eOp dAdd (eCB dLen (aCons (eVar .any 3) aNil)) (eC (.int 1))) aNil))) (aName 9) (bV (eOp dNe (eOp dIx (eOp dIx (eVar .any 3) (eOp dSub (eVar .any 9) (eC (.int 1)))) (eC (.int 0))) (eC (.int 0)))) (eVar .val 9) [9]
      [x0, some (.val, lI ds), some (.val, .int (t : Int)), some (.val, encF F), j4, j5, j6, j7, j8, j9, j10, j11, j12, j13, j14] = some (lN (ableF F)) := by
    rw [eLc_map (fun q : Nat => PyData.int (q : Int)) (fun q : Nat => PyData.int (q : Int)) (fun q => decide ((sec F q).up ≠ 0)) id (pl F.length) (by simp [iR2_pl (n := F.length) (by omega)]) (by rw [pl_len]; unfold most; omega)]
    · rw [List.map_id, ← lN_map]
      rfl
    · intro q m
      have b := mem_pl.mp m
      have e := at_p (F := F) b.1 b.2
      refine ⟨_, rfl, ?_, fun _ => ?_⟩
      · simp [wipeE, e]
      · simp [wipeE]
  obtain ⟨ρ', e4, i6, i7, i8, i9, i10, i11, i12, i13, i14, rfl⟩ := for_ix (a := aName 6) (b := b_law_2)
    (fun n ρ => ∃ j6 j7 j8 j9 j10 j11 j12 j13 j14, ρ = [x0, some (.val, lI ds), some (.val, .int (t : Int)), some (.val, encF F), some (.val, lN (ableF F)), some (.val, .str (encF F).shown), j6, j7, j8, j9, j10, j11, j12, j13, j14]) ((List.range 4).map fun i => PyData.int ((i : Nat) : Int)) 0
    [x0, some (.val, lI ds), some (.val, .int (t : Int)), some (.val, encF F), some (.val, lN (ableF F)), some (.val, .str (encF F).shown), j6, j7, j8, j9, j10, j11, j12, j13, j14] (by
    rintro k d ρ hd ⟨j6, j7, j8, j9, j10, j11, j12, j13, j14, rfl⟩
    have hk : k < 4 := by have := (List.getElem?_eq_some_iff.mp hd).1; simpa using this
    rw [List.getElem?_map, List.getElem?_range hk] at hd
    cases hd
    obtain ⟨i7, i8, i9, i10, i11, i12, i13, i14, b⟩ := law_b2 (x0 := x0) D O ht hk j7 j8 j9 j10 j11 j12 j13 j14
    exact ⟨_, _, rfl, .inl b, _, _, _, _, _, _, _, _, _, rfl⟩) ⟨_, _, _, _, _, _, _, _, _, rfl⟩
  refine ⟨some (.val, encF F), some (.val, lN (ableF F)), some (.val, .str (encF F).shown), i6, i7, i8, i9, i10, i11, i12, i13, i14, ?_⟩
  unfold b_law_3
  have e4' := iR1_ap (n := 4) (by decide)
  rw [show ((4 : Nat) : Int) = 4 from rfl] at e4'
  simp [-List.map_map, e1, e2, e4, e4', rF, c60]
end
theorem mirror_law (ns : List Int) (hl : ns.length ≤ 63) : run g_law 15 1 [scrD ns] = some (.bool true) := by
  obtain ⟨ds, e, D⟩ := draws_ok ns hl
  obtain ⟨ρ', e4, i2, i3, i4, i5, i6, i7, i8, i9, i10, i11, i12, i13, i14, rfl⟩ := for_ix (a := aName 2) (b := b_law_3)
    (fun n ρ => ∃ j2 j3 j4 j5 j6 j7 j8 j9 j10 j11 j12 j13 j14, ρ = [some (.val, scrD ns), some (.val, lI ds), j2, j3, j4, j5, j6, j7, j8, j9, j10, j11, j12, j13, j14]) ((List.range 3).map fun i => PyData.int ((i : Nat) : Int)) 0
    [some (.val, scrD ns), some (.val, lI ds), Option.none, Option.none, Option.none, Option.none, Option.none, Option.none, Option.none, Option.none, Option.none, Option.none, Option.none, Option.none, Option.none] (by
    rintro k d ρ hd ⟨j2, j3, j4, j5, j6, j7, j8, j9, j10, j11, j12, j13, j14, rfl⟩
    have hk : k < 3 := by have := (List.getElem?_eq_some_iff.mp hd).1; simpa using this
    rw [List.getElem?_map, List.getElem?_range hk] at hd
    cases hd
    obtain ⟨i3, i4, i5, i6, i7, i8, i9, i10, i11, i12, i13, i14, b⟩ := law_b3 (x0 := some (.val, scrD ns)) D hk j3 j4 j5 j6 j7 j8 j9 j10 j11 j12 j13 j14
    exact ⟨_, _, rfl, .inl b, _, _, _, _, _, _, _, _, _, _, _, _, _, rfl⟩) ⟨_, _, _, _, _, _, _, _, _, _, _, _, _, rfl⟩
  unfold g_law
  have e3 := iR1_ap (n := 3) (by decide)
  rw [show ((3 : Nat) : Int) = 3 from rfl] at e3
  simp [e, e3, e4]
end DL

namespace DL
open PySem PySem.Spec PyProof.Rows L2
def topS (i : Nat) : Stmt := PySem.Challenge.pw_gridkept_k35_hours_lost_and_saved.main.body.getD i (.Pass ⟨0, 0, 0, 0⟩)
abbrev s__law_draws : Stmt := topS 28
abbrev s__law_low : Stmt := topS 30
abbrev s__law_mix : Stmt := topS 29
abbrev s__law_feeder : Stmt := topS 35
abbrev s_is_fraction : Stmt := topS 8
abbrev s_is_section : Stmt := topS 15
abbrev s_check_feeder : Stmt := topS 16
abbrev s_check_switches : Stmt := topS 17
abbrev s_check_place : Stmt := topS 18
abbrev s_behind_of : Stmt := topS 20
abbrev s_clearing : Stmt := topS 19
abbrev s_out_for : Stmt := topS 22
abbrev s_fraction : Stmt := topS 9
abbrev s_minus : Stmt := topS 11
abbrev s_people_of : Stmt := topS 21
abbrev s_plus : Stmt := topS 10
abbrev s_times : Stmt := topS 12
abbrev s_lost_of : Stmt := topS 23
abbrev s_saved_of : Stmt := topS 25
abbrev s_saved : Stmt := topS 26
abbrev s_lost_hours : Stmt := topS 24
abbrev s__law_plus : Stmt := topS 31
abbrev s__law_total : Stmt := topS 34
abbrev s__law_times : Stmt := topS 32
abbrev s__law_way : Stmt := topS 36
abbrev s__law_out : Stmt := topS 37
abbrev s__law_lost : Stmt := topS 38
abbrev s__law_less : Stmt := topS 33
abbrev s__law_saves : Stmt := topS 39
abbrev s_law : Stmt := topS 40
theorem sc__law_draws : FnScope ["script", "draws", "k", "rest", "turn", "mixed"] ["script"] (defScope s__law_draws) := ⟨rfl, rfl, rfl, by decide +kernel, rfl, by decide +kernel, by decide +kernel⟩
theorem sc__law_low : FnScope ["number", "by", "one", "two"] ["number", "by"] (defScope s__law_low) := ⟨rfl, rfl, rfl, by decide +kernel, rfl, by decide +kernel, by decide +kernel⟩
theorem sc__law_mix : FnScope ["draws", "k", "many", "value"] ["draws", "k", "many"] (defScope s__law_mix) := ⟨rfl, rfl, rfl, by decide +kernel, rfl, by decide +kernel, by decide +kernel⟩
theorem sc__law_feeder : FnScope ["draws", "k", "most", "found", "t", "faults"] ["draws", "k", "most"] (defScope s__law_feeder) := ⟨rfl, rfl, rfl, by decide +kernel, rfl, by decide +kernel, by decide +kernel⟩
theorem sc_is_fraction : FnScope ["told"] ["told"] (defScope s_is_fraction) := ⟨rfl, rfl, rfl, by decide +kernel, rfl, by decide +kernel, by decide +kernel⟩
theorem sc_is_section : FnScope ["told", "k", "up", "people", "faults", "hours", "one"] ["told", "k"] (defScope s_is_section) := ⟨rfl, rfl, rfl, by decide +kernel, rfl, by decide +kernel, by decide +kernel⟩
theorem sc_check_feeder : FnScope ["feeder", "k", "told"] ["feeder"] (defScope s_check_feeder) := ⟨rfl, rfl, rfl, by decide +kernel, rfl, by decide +kernel, by decide +kernel⟩
theorem sc_check_switches : FnScope ["feeder", "switches", "k", "place"] ["feeder", "switches"] (defScope s_check_switches) := ⟨rfl, rfl, rfl, by decide +kernel, rfl, by decide +kernel, by decide +kernel⟩
theorem sc_check_place : FnScope ["feeder", "place"] ["feeder", "place"] (defScope s_check_place) := ⟨rfl, rfl, rfl, by decide +kernel, rfl, by decide +kernel, by decide +kernel⟩
theorem sc_behind_of : FnScope ["feeder", "place", "found", "k", "told"] ["feeder", "place"] (defScope s_behind_of) := ⟨rfl, rfl, rfl, by decide +kernel, rfl, by decide +kernel, by decide +kernel⟩
theorem sc_clearing : FnScope ["feeder", "switches", "place", "here"] ["feeder", "switches", "place"] (defScope s_clearing) := ⟨rfl, rfl, rfl, by decide +kernel, rfl, by decide +kernel, by decide +kernel⟩
theorem sc_out_for : FnScope ["feeder", "switches", "place"] ["feeder", "switches", "place"] (defScope s_out_for) := ⟨rfl, rfl, rfl, by decide +kernel, rfl, by decide +kernel, by decide +kernel⟩
theorem sc_fraction : FnScope ["number", "by", "common"] ["number", "by"] (defScope s_fraction) := ⟨rfl, rfl, rfl, by decide +kernel, rfl, by decide +kernel, by decide +kernel⟩
theorem sc_minus : FnScope ["one", "two"] ["one", "two"] (defScope s_minus) := ⟨rfl, rfl, rfl, by decide +kernel, rfl, by decide +kernel, by decide +kernel⟩
theorem sc_people_of : FnScope ["feeder", "place", "one"] ["feeder", "place"] (defScope s_people_of) := ⟨rfl, rfl, rfl, by decide +kernel, rfl, by decide +kernel, by decide +kernel⟩
theorem sc_plus : FnScope ["one", "two"] ["one", "two"] (defScope s_plus) := ⟨rfl, rfl, rfl, by decide +kernel, rfl, by decide +kernel, by decide +kernel⟩
theorem sc_times : FnScope ["one", "two"] ["one", "two"] (defScope s_times) := ⟨rfl, rfl, rfl, by decide +kernel, rfl, by decide +kernel, by decide +kernel⟩
theorem sc_lost_of : FnScope ["feeder", "switches", "found", "k", "_", "faults", "hours", "people"] ["feeder", "switches"] (defScope s_lost_of) := ⟨rfl, rfl, rfl, by decide +kernel, rfl, by decide +kernel, by decide +kernel⟩
theorem sc_saved_of : FnScope ["feeder", "switches", "place"] ["feeder", "switches", "place"] (defScope s_saved_of) := ⟨rfl, rfl, rfl, by decide +kernel, rfl, by decide +kernel, by decide +kernel⟩
theorem sc_saved : FnScope ["feeder", "switches", "place"] ["feeder", "switches", "place"] (defScope s_saved) := ⟨rfl, rfl, rfl, by decide +kernel, rfl, by decide +kernel, by decide +kernel⟩
theorem sc_lost_hours : FnScope ["feeder", "switches"] ["feeder", "switches"] (defScope s_lost_hours) := ⟨rfl, rfl, rfl, by decide +kernel, rfl, by decide +kernel, by decide +kernel⟩
theorem sc__law_plus : FnScope ["one", "two"] ["one", "two"] (defScope s__law_plus) := ⟨rfl, rfl, rfl, by decide +kernel, rfl, by decide +kernel, by decide +kernel⟩
theorem sc__law_total : FnScope ["told", "found", "one"] ["told"] (defScope s__law_total) := ⟨rfl, rfl, rfl, by decide +kernel, rfl, by decide +kernel, by decide +kernel⟩
theorem sc__law_times : FnScope ["one", "two"] ["one", "two"] (defScope s__law_times) := ⟨rfl, rfl, rfl, by decide +kernel, rfl, by decide +kernel, by decide +kernel⟩
theorem sc__law_way : FnScope ["feeder", "place", "found"] ["feeder", "place"] (defScope s__law_way) := ⟨rfl, rfl, rfl, by decide +kernel, rfl, by decide +kernel, by decide +kernel⟩
theorem sc__law_out : FnScope ["feeder", "switches", "place", "way", "head", "one"] ["feeder", "switches", "place"] (defScope s__law_out) := ⟨rfl, rfl, rfl, by decide +kernel, rfl, by decide +kernel, by decide +kernel⟩
theorem sc__law_lost : FnScope ["feeder", "switches", "parts", "place", "up", "people", "faults", "hours", "out", "one"] ["feeder", "switches"] (defScope s__law_lost) := ⟨rfl, rfl, rfl, by decide +kernel, rfl, by decide +kernel, by decide +kernel⟩
theorem sc__law_less : FnScope ["one", "two"] ["one", "two"] (defScope s__law_less) := ⟨rfl, rfl, rfl, by decide +kernel, rfl, by decide +kernel, by decide +kernel⟩
theorem sc__law_saves : FnScope ["feeder", "switches", "place", "way", "head", "parts", "one", "own", "cleared", "aside", "people", "spot"] ["feeder", "switches", "place"] (defScope s__law_saves) := ⟨rfl, rfl, rfl, by decide +kernel, rfl, by decide +kernel, by decide +kernel⟩
theorem sc_law : FnScope ["script", "draws", "turn", "feeder", "able", "kept", "again", "switches", "before", "place", "told", "gain", "more", "rest", "one"] ["script"] (defScope s_law) := ⟨rfl, rfl, rfl, by decide +kernel, rfl, by decide +kernel, by decide +kernel⟩
structure Tb (K : PySem.W.Frag) (mg : Str → Option Value) where
  c__law_draws : Cal K mg "_law_draws" s__law_draws ["script"]
  c__law_low : Cal K mg "_law_low" s__law_low ["number", "by"]
  c__law_mix : Cal K mg "_law_mix" s__law_mix ["draws", "k", "many"]
  c__law_feeder : Cal K mg "_law_feeder" s__law_feeder ["draws", "k", "most"]
  c_is_fraction : Cal K mg "is_fraction" s_is_fraction ["told"]
  c_is_section : Cal K mg "is_section" s_is_section ["told", "k"]
  c_check_feeder : Cal K mg "check_feeder" s_check_feeder ["feeder"]
  c_check_switches : Cal K mg "check_switches" s_check_switches ["feeder", "switches"]
  c_check_place : Cal K mg "check_place" s_check_place ["feeder", "place"]
  c_behind_of : Cal K mg "behind_of" s_behind_of ["feeder", "place"]
  c_clearing : Cal K mg "clearing" s_clearing ["feeder", "switches", "place"]
  c_out_for : Cal K mg "out_for" s_out_for ["feeder", "switches", "place"]
  c_fraction : Cal K mg "fraction" s_fraction ["number", "by"]
  c_minus : Cal K mg "minus" s_minus ["one", "two"]
  c_people_of : Cal K mg "people_of" s_people_of ["feeder", "place"]
  c_plus : Cal K mg "plus" s_plus ["one", "two"]
  c_times : Cal K mg "times" s_times ["one", "two"]
  c_lost_of : Cal K mg "lost_of" s_lost_of ["feeder", "switches"]
  c_saved_of : Cal K mg "saved_of" s_saved_of ["feeder", "switches", "place"]
  c_saved : Cal K mg "saved" s_saved ["feeder", "switches", "place"]
  c_lost_hours : Cal K mg "lost_hours" s_lost_hours ["feeder", "switches"]
  c__law_plus : Cal K mg "_law_plus" s__law_plus ["one", "two"]
  c__law_total : Cal K mg "_law_total" s__law_total ["told"]
  c__law_times : Cal K mg "_law_times" s__law_times ["one", "two"]
  c__law_way : Cal K mg "_law_way" s__law_way ["feeder", "place"]
  c__law_out : Cal K mg "_law_out" s__law_out ["feeder", "switches", "place"]
  c__law_lost : Cal K mg "_law_lost" s__law_lost ["feeder", "switches"]
  c__law_less : Cal K mg "_law_less" s__law_less ["one", "two"]
  c__law_saves : Cal K mg "_law_saves" s__law_saves ["feeder", "switches", "place"]
  b_len : mg "len" = none
  b_min : mg "min" = none
  b_range : mg "range" = none
  b_abs : mg "abs" = none
  b_int : mg "int" = none
  b_all : mg "all" = none
  b_enumerate : mg "enumerate" = none
  b_sum : mg "sum" = none
  b_sorted : mg "sorted" = none
  b_repr : mg "repr" = none
  b_set : mg "set" = none
  g_gcd : mg "gcd" = some (.builtin "math.gcd")
  k_MOST_PLACES : ∃ t, mg "MOST_PLACES" = some (.int 10 t)
section
variable {K : PySem.W.Frag} {mg : Str → Option Value}
theorem bd__law_draws {f : Addr} {fd : FuncData} (F : Fun K "_law_draws" "_law_draws" s__law_draws f fd) : Binds K fd ["script"] [] := F.binds (ps := ["script"]) fun _ _ _ _ _ _ us hl => match us, hl with | [_], _ => rfl
theorem bd__law_low {f : Addr} {fd : FuncData} (F : Fun K "_law_low" "_law_low" s__law_low f fd) : Binds K fd ["number", "by"] [] := F.binds (ps := ["number", "by"]) fun _ _ _ _ _ _ us hl => match us, hl with | [_, _], _ => rfl
theorem bd__law_mix {f : Addr} {fd : FuncData} (F : Fun K "_law_mix" "_law_mix" s__law_mix f fd) : Binds K fd ["draws", "k", "many"] [] := F.binds (ps := ["draws", "k", "many"]) fun _ _ _ _ _ _ us hl => match us, hl with | [_, _, _], _ => rfl
theorem bd__law_feeder {f : Addr} {fd : FuncData} (F : Fun K "_law_feeder" "_law_feeder" s__law_feeder f fd) : Binds K fd ["draws", "k", "most"] [] := F.binds (ps := ["draws", "k", "most"]) fun _ _ _ _ _ _ us hl => match us, hl with | [_, _, _], _ => rfl
theorem bd_is_fraction {f : Addr} {fd : FuncData} (F : Fun K "is_fraction" "is_fraction" s_is_fraction f fd) : Binds K fd ["told"] [] := F.binds (ps := ["told"]) fun _ _ _ _ _ _ us hl => match us, hl with | [_], _ => rfl
theorem bd_is_section {f : Addr} {fd : FuncData} (F : Fun K "is_section" "is_section" s_is_section f fd) : Binds K fd ["told", "k"] [] := F.binds (ps := ["told", "k"]) fun _ _ _ _ _ _ us hl => match us, hl with | [_, _], _ => rfl
theorem bd_check_feeder {f : Addr} {fd : FuncData} (F : Fun K "check_feeder" "check_feeder" s_check_feeder f fd) : Binds K fd ["feeder"] [] := F.binds (ps := ["feeder"]) fun _ _ _ _ _ _ us hl => match us, hl with | [_], _ => rfl
theorem bd_check_switches {f : Addr} {fd : FuncData} (F : Fun K "check_switches" "check_switches" s_check_switches f fd) : Binds K fd ["feeder", "switches"] [] := F.binds (ps := ["feeder", "switches"]) fun _ _ _ _ _ _ us hl => match us, hl with | [_, _], _ => rfl
theorem bd_check_place {f : Addr} {fd : FuncData} (F : Fun K "check_place" "check_place" s_check_place f fd) : Binds K fd ["feeder", "place"] [] := F.binds (ps := ["feeder", "place"]) fun _ _ _ _ _ _ us hl => match us, hl with | [_, _], _ => rfl
theorem bd_behind_of {f : Addr} {fd : FuncData} (F : Fun K "behind_of" "behind_of" s_behind_of f fd) : Binds K fd ["feeder", "place"] [] := F.binds (ps := ["feeder", "place"]) fun _ _ _ _ _ _ us hl => match us, hl with | [_, _], _ => rfl
theorem bd_clearing {f : Addr} {fd : FuncData} (F : Fun K "clearing" "clearing" s_clearing f fd) : Binds K fd ["feeder", "switches", "place"] [] := F.binds (ps := ["feeder", "switches", "place"]) fun _ _ _ _ _ _ us hl => match us, hl with | [_, _, _], _ => rfl
theorem bd_out_for {f : Addr} {fd : FuncData} (F : Fun K "out_for" "out_for" s_out_for f fd) : Binds K fd ["feeder", "switches", "place"] [] := F.binds (ps := ["feeder", "switches", "place"]) fun _ _ _ _ _ _ us hl => match us, hl with | [_, _, _], _ => rfl
theorem bd_fraction {f : Addr} {fd : FuncData} (F : Fun K "fraction" "fraction" s_fraction f fd) : Binds K fd ["number", "by"] [] := F.binds (ps := ["number", "by"]) fun _ _ _ _ _ _ us hl => match us, hl with | [_, _], _ => rfl
theorem bd_minus {f : Addr} {fd : FuncData} (F : Fun K "minus" "minus" s_minus f fd) : Binds K fd ["one", "two"] [] := F.binds (ps := ["one", "two"]) fun _ _ _ _ _ _ us hl => match us, hl with | [_, _], _ => rfl
theorem bd_people_of {f : Addr} {fd : FuncData} (F : Fun K "people_of" "people_of" s_people_of f fd) : Binds K fd ["feeder", "place"] [] := F.binds (ps := ["feeder", "place"]) fun _ _ _ _ _ _ us hl => match us, hl with | [_, _], _ => rfl
theorem bd_plus {f : Addr} {fd : FuncData} (F : Fun K "plus" "plus" s_plus f fd) : Binds K fd ["one", "two"] [] := F.binds (ps := ["one", "two"]) fun _ _ _ _ _ _ us hl => match us, hl with | [_, _], _ => rfl
theorem bd_times {f : Addr} {fd : FuncData} (F : Fun K "times" "times" s_times f fd) : Binds K fd ["one", "two"] [] := F.binds (ps := ["one", "two"]) fun _ _ _ _ _ _ us hl => match us, hl with | [_, _], _ => rfl
theorem bd_lost_of {f : Addr} {fd : FuncData} (F : Fun K "lost_of" "lost_of" s_lost_of f fd) : Binds K fd ["feeder", "switches"] [] := F.binds (ps := ["feeder", "switches"]) fun _ _ _ _ _ _ us hl => match us, hl with | [_, _], _ => rfl
theorem bd_saved_of {f : Addr} {fd : FuncData} (F : Fun K "saved_of" "saved_of" s_saved_of f fd) : Binds K fd ["feeder", "switches", "place"] [] := F.binds (ps := ["feeder", "switches", "place"]) fun _ _ _ _ _ _ us hl => match us, hl with | [_, _, _], _ => rfl
theorem bd_saved {f : Addr} {fd : FuncData} (F : Fun K "saved" "saved" s_saved f fd) : Binds K fd ["feeder", "switches", "place"] [] := F.binds (ps := ["feeder", "switches", "place"]) fun _ _ _ _ _ _ us hl => match us, hl with | [_, _, _], _ => rfl
theorem bd_lost_hours {f : Addr} {fd : FuncData} (F : Fun K "lost_hours" "lost_hours" s_lost_hours f fd) : Binds K fd ["feeder", "switches"] [] := F.binds (ps := ["feeder", "switches"]) fun _ _ _ _ _ _ us hl => match us, hl with | [_, _], _ => rfl
theorem bd__law_plus {f : Addr} {fd : FuncData} (F : Fun K "_law_plus" "_law_plus" s__law_plus f fd) : Binds K fd ["one", "two"] [] := F.binds (ps := ["one", "two"]) fun _ _ _ _ _ _ us hl => match us, hl with | [_, _], _ => rfl
theorem bd__law_total {f : Addr} {fd : FuncData} (F : Fun K "_law_total" "_law_total" s__law_total f fd) : Binds K fd ["told"] [] := F.binds (ps := ["told"]) fun _ _ _ _ _ _ us hl => match us, hl with | [_], _ => rfl
theorem bd__law_times {f : Addr} {fd : FuncData} (F : Fun K "_law_times" "_law_times" s__law_times f fd) : Binds K fd ["one", "two"] [] := F.binds (ps := ["one", "two"]) fun _ _ _ _ _ _ us hl => match us, hl with | [_, _], _ => rfl
theorem bd__law_way {f : Addr} {fd : FuncData} (F : Fun K "_law_way" "_law_way" s__law_way f fd) : Binds K fd ["feeder", "place"] [] := F.binds (ps := ["feeder", "place"]) fun _ _ _ _ _ _ us hl => match us, hl with | [_, _], _ => rfl
theorem bd__law_out {f : Addr} {fd : FuncData} (F : Fun K "_law_out" "_law_out" s__law_out f fd) : Binds K fd ["feeder", "switches", "place"] [] := F.binds (ps := ["feeder", "switches", "place"]) fun _ _ _ _ _ _ us hl => match us, hl with | [_, _, _], _ => rfl
theorem bd__law_lost {f : Addr} {fd : FuncData} (F : Fun K "_law_lost" "_law_lost" s__law_lost f fd) : Binds K fd ["feeder", "switches"] [] := F.binds (ps := ["feeder", "switches"]) fun _ _ _ _ _ _ us hl => match us, hl with | [_, _], _ => rfl
theorem bd__law_less {f : Addr} {fd : FuncData} (F : Fun K "_law_less" "_law_less" s__law_less f fd) : Binds K fd ["one", "two"] [] := F.binds (ps := ["one", "two"]) fun _ _ _ _ _ _ us hl => match us, hl with | [_, _], _ => rfl
theorem bd__law_saves {f : Addr} {fd : FuncData} (F : Fun K "_law_saves" "_law_saves" s__law_saves f fd) : Binds K fd ["feeder", "switches", "place"] [] := F.binds (ps := ["feeder", "switches", "place"]) fun _ _ _ _ _ _ us hl => match us, hl with | [_, _, _], _ => rfl
variable {P : Program} {w : World} {base : Heap}
theorem ok__law_draws (T : Tb K mg) : FnOk P w K mg base CX0 1 T.c__law_draws.f T.c__law_draws.fd ["script"] (spD K m__law_draws) := fn_spD T.c__law_draws.F sc__law_draws fun cdv A outer s H E hr => ⟨_,
 (pss_cons (ps_set (i := 1) sc__law_draws.nd rfl (by first | exact .inl rfl | exact .inr rfl) (pe_lst pa_nil))
 (pss_cons (ps_for PassesOwn.never rfl (pi_range1 (by rfl) T.b_range (pa_cons (pe_callB (call_min2 rfl) (by rfl) T.b_min (by decide +kernel) (pa_cons pe_int (pa_cons (pe_callB call_len_seq (by rfl) T.b_len (by decide +kernel) (pa_cons (pv 0) pa_nil)) pa_nil))) pa_nil)) (pg_name (i := 2) sc__law_draws.nd rfl (by first | exact .inl rfl | exact .inr rfl))
 (pss_cons (ps_set (i := 3) sc__law_draws.nd rfl (by first | exact .inl rfl | exact .inr rfl) (pe_callB call_abs (by rfl) T.b_abs (by decide +kernel) (pa_cons (pe_ix (IxR.or ix_list ix_tup) (pv 0) (pv 2) (fun _ _ => rfl)) pa_nil)))
 (pss_one (ps_if (pt_cmpR op_ge (pv 3) (pe_op op_pow pe_int pe_int) (nomark _))
 (pss_one (ps_for PassesOwn.never rfl (pi_range1 (by rfl) T.b_range (pa_cons pe_int pa_nil)) (pg_name (i := 4) sc__law_draws.nd rfl (by first | exact .inl rfl | exact .inr rfl))
 (pss_one (ps_if (pt_cmpR op_gt (pv 3) pe_int (nomark _))
 (pss_cons (ps_expr (pe_bm PySem.F.plainAttrs_list PySem.F.slot_list_append PySem.F.type_list_append mt_append (pv 1) (pa_cons (pe_op op_mod (pe_callTy call_int1 (by rfl) T.b_int (by decide +kernel) (pa_cons (pv 3) pa_nil)) pe_int) pa_nil)))
 (pss_one (ps_set (i := 3) sc__law_draws.nd rfl (by first | exact .inl rfl | exact .inr rfl) (pe_op op_fdivW (pv 3) pe_int))))
 pss_nil))))
 (pss_cons (ps_set (i := 5) sc__law_draws.nd rfl (by first | exact .inl rfl | exact .inr rfl) (pe_op op_mod (pe_callTy call_int1 (by rfl) T.b_int (by decide +kernel) (pa_cons (pe_op op_add (pe_op op_mulW (pv 3) pe_int) (pe_op op_mulW (pe_op op_add (pv 2) pe_int) pe_int)) pa_nil)) pe_int))
 (pss_cons (ps_set (i := 5) sc__law_draws.nd rfl (by first | exact .inl rfl | exact .inr rfl) (pe_op op_mod (pe_callTy call_int1 (by rfl) T.b_int (by decide +kernel) (pa_cons (pe_op op_add (pe_op op_add (pe_op op_mulW (pv 5) pe_int) (pe_op op_mulW pe_int (pv 2))) pe_int) pa_nil)) pe_int))
 (pss_cons (ps_expr (pe_bm PySem.F.plainAttrs_list PySem.F.slot_list_append PySem.F.type_list_append mt_append (pv 1) (pa_cons (pe_op op_mod (pe_callTy call_int1 (by rfl) T.b_int (by decide +kernel) (pa_cons (pv 5) pa_nil)) pe_int) pa_nil)))
 (pss_one (ps_expr (pe_bm PySem.F.plainAttrs_list PySem.F.slot_list_append PySem.F.type_list_append mt_append (pv 1) (pa_cons (pe_op op_mod (pe_callTy call_int1 (by rfl) T.b_int (by decide +kernel) (pa_cons (pe_op op_fdivW (pv 5) pe_int) pa_nil)) pe_int) pa_nil)))))))))))
 (pss_one (ps_ret (pv 1))))),
 (sems_seq (sems_asgO (sem_lst (sema_nil .val)))
 (sems_seq (sems_for (semi_range1 (sema_cons (sem_cb (sc_min2 .any) (sema_cons (sem_int 63 .any) (sema_cons (sem_cb (sc_len .any) (sema_cons (sem_var .any 0) (sema_nil .any))) (sema_nil .any)))) (sema_nil .any))) (semg_name 2)
 (sems_seq (sems_asg (sem_cb (sc_abs .val) (sema_cons (sem_op (s2_ix .any) (sem_var .any 0) (sem_var .any 2)) (sema_nil .any))) (semg_name 3))
 (sems_if (semt_test (sem_op (s2_cmp _ .any) (sem_var .any 3) (sem_op (s2_intC cPow cPow_ok _ .any) (sem_int 10 .any) (sem_int 18 .any))))
 (sems_for (semi_range1 (sema_cons (sem_int 60 .any) (sema_nil .any))) (semg_name 4)
 (sems_if (semt_test (sem_op (s2_cmp _ .any) (sem_var .any 3) (sem_int 0 .any)))
 (sems_seq (sems_app (sem_op (s2_intC cPos cPos_ok _ .val) (sem_cb (sc_int .any) (sema_cons (sem_var .any 3) (sema_nil .any))) (sem_int 65536 .any)))
 (sems_asg (sem_op (s2_intC cDiv cDiv_ok _ .val) (sem_var .any 3) (sem_int 65536 .any)) (semg_name 3)))
 sems_nil))
 (sems_seq (sems_asg (sem_op (s2_intC cPos cPos_ok _ .val) (sem_cb (sc_int .any) (sema_cons (sem_op (s2_int _ .any) (sem_op (s2_intC cMul cMul_ok _ .any) (sem_var .any 3) (sem_int 48271 .any)) (sem_op (s2_intC cMul cMul_ok _ .any) (sem_op (s2_int _ .any) (sem_var .any 2) (sem_int 1 .any)) (sem_int 69621 .any))) (sema_nil .any))) (sem_int 2147483647 .any)) (semg_name 5))
 (sems_seq (sems_asg (sem_op (s2_intC cPos cPos_ok _ .val) (sem_cb (sc_int .any) (sema_cons (sem_op (s2_int _ .any) (sem_op (s2_int _ .any) (sem_op (s2_intC cMul cMul_ok _ .any) (sem_var .any 5) (sem_int 16807 .any)) (sem_op (s2_intC cMul cMul_ok _ .any) (sem_int 11 .any) (sem_var .any 2))) (sem_int 5 .any)) (sema_nil .any))) (sem_int 2147483629 .any)) (semg_name 5))
 (sems_seq (sems_app (sem_op (s2_intC cPos cPos_ok _ .val) (sem_cb (sc_int .any) (sema_cons (sem_var .any 5) (sema_nil .any))) (sem_int 65536 .any)))
 (sems_app (sem_op (s2_intC cPos cPos_ok _ .val) (sem_cb (sc_int .any) (sema_cons (sem_op (s2_intC cDiv cDiv_ok _ .any) (sem_var .any 5) (sem_int 65536 .any)) (sema_nil .any))) (sem_int 32768 .any)))))))))
 (sems_frz 1 (sems_ret (sem_var .val 1)))))⟩
theorem ok__law_low (T : Tb K mg) : FnOk P w K mg base CX0 1 T.c__law_low.f T.c__law_low.fd ["number", "by"] (spD K m__law_low) := fn_spD T.c__law_low.F sc__law_low fun cdv A outer s H E hr => ⟨_,
 (pss_cons (ps_par (i := 2) (j := 3) rfl sc__law_low.nd rfl rfl (by decide) rfl rfl (pa_cons (pe_callB call_abs (by rfl) T.b_abs (by decide +kernel) (pa_cons (pv 0) pa_nil)) (pa_cons (pv 1) pa_nil)) (by rfl))
 (pss_cons (ps_while PassesOwn.never (pt_cmpR (op_neD (u64 hr)) (pv 3) pe_int (nomark _))
 (pss_one (ps_asg (pe_lst (pa_cons (pv 3) (pa_cons (pe_op op_mod (pe_callTy call_int1 (by rfl) T.b_int (by decide +kernel) (pa_cons (pv 2) pa_nil)) (pv 3)) pa_nil))) (pg_unl rfl (pgs_cons (pg_name (i := 2) sc__law_low.nd rfl (by first | exact .inl rfl | exact .inr rfl)) (pgs_cons (pg_name (i := 3) sc__law_low.nd rfl (by first | exact .inl rfl | exact .inr rfl)) pgs_nil))))))
 (pss_one (ps_ret (pe_tup (pa_cons (pe_op op_fdivW (pv 0) (pv 2)) (pa_cons (pe_op op_fdivW (pv 1) (pv 2)) pa_nil))))))),
 (sems_seq (sems_par (sema_cons (sem_cb (sc_abs .val) (sema_cons (sem_var .any 0) (sema_nil .any))) (sema_cons (sem_var .val 1) (sema_nil .val))))
 (sems_seq (sems_while (semt_test (sem_op (s2_ne .any) (sem_var .any 3) (sem_int 0 .any)))
 (sems_asg (SemO.e (sem_lst (sema_cons (sem_var .val 3) (sema_cons (sem_op (s2_intC cPos cPos_ok _ .val) (sem_cb (sc_int .any) (sema_cons (sem_var .any 2) (sema_nil .any))) (sem_var .any 3)) (sema_nil .val))))) (semg_lst (semgs_cons (semg_name 2) (semgs_cons (semg_name 3) semgs_nil)))))
 (sems_ret (sem_tup .val (sema_cons (sem_op (s2_intC cDiv cDiv_ok _ .val) (sem_var .any 0) (sem_var .any 2)) (sema_cons (sem_op (s2_intC cDiv cDiv_ok _ .val) (sem_var .any 1) (sem_var .any 2)) (sema_nil .val)))))))⟩
theorem ok__law_mix (T : Tb K mg) : FnOk P w K mg base CX0 1 T.c__law_mix.f T.c__law_mix.fd ["draws", "k", "many"] (spD K m__law_mix) := fn_spD T.c__law_mix.F sc__law_mix fun cdv A outer s H E hr => ⟨_,
 (pss_cons (ps_set (i := 3) sc__law_mix.nd rfl (by first | exact .inl rfl | exact .inr rfl) pe_int)
 (pss_cons (ps_if (pt_cmpR op_gt (pe_callB call_len_seq (by rfl) T.b_len (by decide +kernel) (pa_cons (pv 0) pa_nil)) pe_int (nomark _))
 (pss_one (ps_set (i := 3) sc__law_mix.nd rfl (by first | exact .inl rfl | exact .inr rfl) (pe_ix (IxR.or ix_list ix_tup) (pv 0) (pe_op op_mod (pe_callTy call_int1 (by rfl) T.b_int (by decide +kernel) (pa_cons (pv 1) pa_nil)) (pe_callB call_len_seq (by rfl) T.b_len (by decide +kernel) (pa_cons (pv 0) pa_nil))) (fun _ _ => rfl))))
 pss_nil)
 (pss_cons (ps_if (pt_cmpR op_lt (pv 1) (pe_callB call_len_seq (by rfl) T.b_len (by decide +kernel) (pa_cons (pv 0) pa_nil)) (nomark _))
 (pss_one (ps_ret (pe_op op_mod (pe_callTy call_int1 (by rfl) T.b_int (by decide +kernel) (pa_cons (pv 3) pa_nil)) (pv 2))))
 pss_nil)
 (pss_one (ps_ret (pe_op op_mod (pe_callTy call_int1 (by rfl) T.b_int (by decide +kernel) (pa_cons (pe_op op_fdivW (pe_callTy call_int1 (by rfl) T.b_int (by decide +kernel) (pa_cons (pe_op op_add (pe_op op_mulW (pv 3) pe_int) (pe_op op_mulW (pv 1) pe_int)) pa_nil)) pe_int) pa_nil)) (pv 2))))))),
 (sems_seq (sems_asg (sem_int 0 .val) (semg_name 3))
 (sems_seq (sems_if (semt_test (sem_op (s2_cmp _ .any) (sem_cb (sc_len .any) (sema_cons (sem_var .any 0) (sema_nil .any))) (sem_int 0 .any)))
 (sems_asg (sem_op (s2_ix .val) (sem_var .val 0) (sem_op (s2_intC cPos cPos_ok _ .any) (sem_cb (sc_int .any) (sema_cons (sem_var .any 1) (sema_nil .any))) (sem_cb (sc_len .any) (sema_cons (sem_var .any 0) (sema_nil .any))))) (semg_name 3))
 sems_nil)
 (sems_seq (sems_if (semt_test (sem_op (s2_cmp _ .any) (sem_var .any 1) (sem_cb (sc_len .any) (sema_cons (sem_var .any 0) (sema_nil .any)))))
 (sems_ret (sem_op (s2_intC cPos cPos_ok _ .val) (sem_cb (sc_int .any) (sema_cons (sem_var .any 3) (sema_nil .any))) (sem_var .any 2)))
 sems_nil)
 (sems_ret (sem_op (s2_intC cPos cPos_ok _ .val) (sem_cb (sc_int .any) (sema_cons (sem_op (s2_intC cDiv cDiv_ok _ .any) (sem_cb (sc_int .any) (sema_cons (sem_op (s2_int _ .any) (sem_op (s2_intC cMul cMul_ok _ .any) (sem_var .any 3) (sem_int 7919 .any)) (sem_op (s2_intC cMul cMul_ok _ .any) (sem_var .any 1) (sem_int 104729 .any))) (sema_nil .any))) (sem_int 3 .any)) (sema_nil .any))) (sem_var .any 2))))))⟩
theorem ok__law_feeder (T : Tb K mg) : FnOk P w K mg base CX0 2 T.c__law_feeder.f T.c__law_feeder.fd ["draws", "k", "most"] (spD K m__law_feeder) := fn_spD T.c__law_feeder.F sc__law_feeder fun cdv A outer s H E hr => ⟨_,
 (pss_cons (ps_set (i := 3) sc__law_feeder.nd rfl (by first | exact .inl rfl | exact .inr rfl) (pe_lst pa_nil))
 (pss_cons (ps_for PassesOwn.never rfl (pi_range1 (by rfl) T.b_range (pa_cons (pe_op op_add pe_int (pe_call (ok__law_mix T) (hr.mono (by decide)) (by rfl) T.c__law_mix.G T.c__law_mix.F.kp T.c__law_mix.B .nil passE0 (pa_cons (pv 0) (pa_cons (pv 1) (pa_cons (pv 2) pa_nil))))) pa_nil)) (pg_name (i := 4) sc__law_feeder.nd rfl (by first | exact .inl rfl | exact .inr rfl))
 (pss_cons (ps_set (i := 5) sc__law_feeder.nd rfl (by first | exact .inl rfl | exact .inr rfl) (pe_call (ok__law_low T) (hr.mono (by decide)) (by rfl) T.c__law_low.G T.c__law_low.F.kp T.c__law_low.B .nil passE0 (pa_cons (pe_call (ok__law_mix T) (hr.mono (by decide)) (by rfl) T.c__law_mix.G T.c__law_mix.F.kp T.c__law_mix.B .nil passE0 (pa_cons (pv 0) (pa_cons (pe_op op_add (pe_op op_add (pv 1) pe_int) (pe_op op_mulW pe_int (pv 4))) (pa_cons pe_int pa_nil)))) (pa_cons (pe_op op_add pe_int (pe_call (ok__law_mix T) (hr.mono (by decide)) (by rfl) T.c__law_mix.G T.c__law_mix.F.kp T.c__law_mix.B .nil passE0 (pa_cons (pv 0) (pa_cons (pe_op op_add (pe_op op_add (pv 1) pe_int) (pe_op op_mulW pe_int (pv 4))) (pa_cons pe_int pa_nil))))) pa_nil))))
 (pss_one (ps_expr (pe_bm PySem.F.plainAttrs_list PySem.F.slot_list_append PySem.F.type_list_append mt_append (pv 3) (pa_cons (pe_tup (pa_cons (pe_call (ok__law_mix T) (hr.mono (by decide)) (by rfl) T.c__law_mix.G T.c__law_mix.F.kp T.c__law_mix.B .nil passE0 (pa_cons (pv 0) (pa_cons (pe_op op_add (pe_op op_add (pv 1) pe_int) (pe_op op_mulW pe_int (pv 4))) (pa_cons (pe_op op_add (pv 4) pe_int) pa_nil)))) (pa_cons (pe_call (ok__law_mix T) (hr.mono (by decide)) (by rfl) T.c__law_mix.G T.c__law_mix.F.kp T.c__law_mix.B .nil passE0 (pa_cons (pv 0) (pa_cons (pe_op op_add (pe_op op_add (pv 1) pe_int) (pe_op op_mulW pe_int (pv 4))) (pa_cons pe_int pa_nil)))) (pa_cons (pv 5) (pa_cons (pe_call (ok__law_low T) (hr.mono (by decide)) (by rfl) T.c__law_low.G T.c__law_low.F.kp T.c__law_low.B .nil passE0 (pa_cons (pe_call (ok__law_mix T) (hr.mono (by decide)) (by rfl) T.c__law_mix.G T.c__law_mix.F.kp T.c__law_mix.B .nil passE0 (pa_cons (pv 0) (pa_cons (pe_op op_add (pe_op op_add (pv 1) pe_int) (pe_op op_mulW pe_int (pv 4))) (pa_cons pe_int pa_nil)))) (pa_cons pe_int pa_nil))) pa_nil))))) pa_nil))))))
 (pss_one (ps_ret (pv 3))))),
 (sems_seq (sems_asgO (sem_lst (sema_nil .val)))
 (sems_seq (sems_for (semi_range1 (sema_cons (sem_op (s2_int _ .any) (sem_int 1 .any) (sem_call .any (sema_cons (sem_var .val 0) (sema_cons (sem_var .val 1) (sema_cons (sem_var .val 2) (sema_nil .val)))))) (sema_nil .any))) (semg_name 4)
 (sems_seq (sems_asg (sem_call .val (sema_cons (sem_call .val (sema_cons (sem_var .val 0) (sema_cons (sem_op (s2_int _ .val) (sem_op (s2_int _ .any) (sem_var .any 1) (sem_int 3 .any)) (sem_op (s2_intC cMul cMul_ok _ .any) (sem_int 5 .any) (sem_var .any 4))) (sema_cons (sem_int 7 .val) (sema_nil .val))))) (sema_cons (sem_op (s2_int _ .val) (sem_int 1 .any) (sem_call .any (sema_cons (sem_var .val 0) (sema_cons (sem_op (s2_int _ .val) (sem_op (s2_int _ .any) (sem_var .any 1) (sem_int 4 .any)) (sem_op (s2_intC cMul cMul_ok _ .any) (sem_int 5 .any) (sem_var .any 4))) (sema_cons (sem_int 3 .val) (sema_nil .val)))))) (sema_nil .val)))) (semg_name 5))
 (sems_app (sem_tup .val (sema_cons (sem_call .val (sema_cons (sem_var .val 0) (sema_cons (sem_op (s2_int _ .val) (sem_op (s2_int _ .any) (sem_var .any 1) (sem_int 1 .any)) (sem_op (s2_intC cMul cMul_ok _ .any) (sem_int 5 .any) (sem_var .any 4))) (sema_cons (sem_op (s2_int _ .val) (sem_var .any 4) (sem_int 1 .any)) (sema_nil .val))))) (sema_cons (sem_call .val (sema_cons (sem_var .val 0) (sema_cons (sem_op (s2_int _ .val) (sem_op (s2_int _ .any) (sem_var .any 1) (sem_int 2 .any)) (sem_op (s2_intC cMul cMul_ok _ .any) (sem_int 5 .any) (sem_var .any 4))) (sema_cons (sem_int 20 .val) (sema_nil .val))))) (sema_cons (sem_var .val 5) (sema_cons (sem_call .val (sema_cons (sem_call .val (sema_cons (sem_var .val 0) (sema_cons (sem_op (s2_int _ .val) (sem_op (s2_int _ .any) (sem_var .any 1) (sem_int 5 .any)) (sem_op (s2_intC cMul cMul_ok _ .any) (sem_int 5 .any) (sem_var .any 4))) (sema_cons (sem_int 6 .val) (sema_nil .val))))) (sema_cons (sem_int 2 .val) (sema_nil .val)))) (sema_nil .val)))))))))
 (sems_frz 3 (sems_ret (sem_var .val 3)))))⟩
theorem ok_is_fraction (T : Tb K mg) : FnOk P w K mg base CX0 1 T.c_is_fraction.f T.c_is_fraction.fd ["told"] (spD K m_is_fraction) := fn_spD T.c_is_fraction.F sc_is_fraction fun cdv A outer s H E hr => ⟨_,
 (pss_one (ps_ret (pe_and (pe_cmpR op_gt (pe_ix (IxR.or ix_list ix_tup) (pv 0) pe_int (fun _ _ => rfl)) pe_int (nomark _)) (pe_one (pe_cmpR (op_eqD (u64 hr)) (pe_callBfun cr_gcd (by rfl) T.g_gcd (pa_cons (pe_ix (IxR.or ix_list ix_tup) (pv 0) pe_int (fun _ _ => rfl)) (pa_cons (pe_ix (IxR.or ix_list ix_tup) (pv 0) pe_int (fun _ _ => rfl)) pa_nil))) pe_int (nomark _)))))),
 (sems_ret (sem_and .val (sem_op (s2_cmp _ .any) (sem_op (s2_ix .any) (sem_var .any 0) (sem_int 1 .any)) (sem_int 0 .any)) (sem_op (s2_eq .val) (sem_cb (sc_gcd .any) (sema_cons (sem_op (s2_ix .any) (sem_var .any 0) (sem_int 0 .any)) (sema_cons (sem_op (s2_ix .any) (sem_var .any 0) (sem_int 1 .any)) (sema_nil .any)))) (sem_int 1 .any))))⟩
theorem ok_is_section (T : Tb K mg) : FnOk P w K mg base CX0 2 T.c_is_section.f T.c_is_section.fd ["told", "k"] (spD K m_is_section) := fn_spD T.c_is_section.F sc_is_section fun cdv A outer s H E hr => ⟨_,
 (pss_cons (ps_asg (pv 0) (pg_tup rfl (pgs_cons (pg_name (i := 2) sc_is_section.nd rfl (by first | exact .inl rfl | exact .inr rfl)) (pgs_cons (pg_name (i := 3) sc_is_section.nd rfl (by first | exact .inl rfl | exact .inr rfl)) (pgs_cons (pg_name (i := 4) sc_is_section.nd rfl (by first | exact .inl rfl | exact .inr rfl)) (pgs_cons (pg_name (i := 5) sc_is_section.nd rfl (by first | exact .inl rfl | exact .inr rfl)) pgs_nil))))))
 (pss_cons (ps_if (PW.pt (pw_or (pt_not (pt_chain op_le op_le pe_int (pv 2) (pv 1))) (pw_or1 (pt_cmpR op_lt (pv 3) pe_int (nomark _)))))
 (pss_one (ps_ret pe_bl))
 pss_nil)
 (pss_one (ps_ret (pe_callB (cr_all rfl) (by rfl) T.b_all (by decide +kernel) (pa_cons (pe_lc (own := [("one", 6)]) rfl sc_is_section.nd (pi_tup (pe_tup (pa_cons (pv 4) (pa_cons (pv 5) pa_nil)))) (blkOk_by (N := ["told", "k", "up", "people", "faults", "hours", "one"]) (sc := defScope s_is_section) (own := [("one", 6)]) (by decide +kernel)) (fun _ _ _ _ _ => (pg_name (i := 6) sc_is_section.nd rfl (by first | exact .inl rfl | exact .inr rfl))) (fun _ _ _ _ _ => pts_nil) (fun _ _ _ _ _ => (pe_and (pe_call (ok_is_fraction T) (hr.mono (by decide)) (by rfl) T.c_is_fraction.G T.c_is_fraction.F.kp T.c_is_fraction.B .nil passE0 (pa_cons (pv 6) pa_nil)) (pe_one (pe_cmpR op_ge (pe_ix (IxR.or ix_list ix_tup) (pv 6) pe_int (fun _ _ => rfl)) pe_int (nomark _)))))) pa_nil)))))),
 (sems_seq (sems_asg (sem_var .val 0) (semg_tup (semgs_cons (semg_name 2) (semgs_cons (semg_name 3) (semgs_cons (semg_name 4) (semgs_cons (semg_name 5) semgs_nil))))))
 (sems_seq (sems_if (semt_or (semt_not (semt_test (sem_chain .any (s2_cmp _ .any) (s2_cmp _ .any) (sem_int 0 .any) (sem_var .any 2) (sem_var .any 1)))) (semt_test (sem_op (s2_cmp _ .any) (sem_var .any 3) (sem_int 0 .any))))
 (sems_ret (sem_bl false .val))
 sems_nil)
 (sems_ret (sem_cb (sc_all .val) (sema_cons (SemO.e (sem_lc (SemI.weak (semi_tup (sem_tup .val (sema_cons (sem_var .val 4) (sema_cons (sem_var .val 5) (sema_nil .val)))))) (semg_name 6) (by decide) semt_yes (sem_and .val (sem_call .any (sema_cons (sem_var .val 6) (sema_nil .val))) (sem_op (s2_cmp _ .val) (sem_op (s2_ix .any) (sem_var .any 6) (sem_int 0 .any)) (sem_int 0 .any))))) (sema_nil .any))))))⟩
theorem ok_check_feeder (T : Tb K mg) : FnOk P w K mg base CX0 3 T.c_check_feeder.f T.c_check_feeder.fd ["feeder"] (spD K m_check_feeder) := fn_spD T.c_check_feeder.F sc_check_feeder fun cdv A outer s H E hr => ⟨_,
 (pss_cons (ps_if (pt_not (pt_chain op_le op_le pe_int (pe_callB call_len_seq (by rfl) T.b_len (by decide +kernel) (pa_cons (pv 0) pa_nil)) (pe_glob (v := .int 10) (by rfl) T.k_MOST_PLACES.choose_spec ⟨_, rfl⟩)))
 pss_never
 pss_nil)
 (pss_one (ps_for PassesOwn.never rfl (pi_enum (by rfl) T.b_enumerate (pa_cons (pv 0) pa_nil)) (pg_tup rfl (pgs_cons (pg_name (i := 1) sc_check_feeder.nd rfl (by first | exact .inl rfl | exact .inr rfl)) (pgs_cons (pg_name (i := 2) sc_check_feeder.nd rfl (by first | exact .inl rfl | exact .inr rfl)) pgs_nil)))
 (pss_one (ps_if (pt_not (pt_val (pe_call (ok_is_section T) (hr.mono (by decide)) (by rfl) T.c_is_section.G T.c_is_section.F.kp T.c_is_section.B .nil passE0 (pa_cons (pv 2) (pa_cons (pv 1) pa_nil)))))
 pss_never
 pss_nil))))),
 (sems_seq (sems_if (semt_not (semt_test (sem_chain .any (s2_cmp _ .any) (s2_cmp _ .any) (sem_int 1 .any) (sem_cb (sc_len .any) (sema_cons (sem_var .any 0) (sema_nil .any))) (sem_int 10 .any))))
 sems_never
 sems_nil)
 (sems_for (semi_enum (sema_cons (sem_var .val 0) (sema_nil .val))) (semg_tup (semgs_cons (semg_name 1) (semgs_cons (semg_name 2) semgs_nil)))
 (sems_if (semt_not (semt_b (sem_call .any (sema_cons (sem_var .val 2) (sema_cons (sem_var .val 1) (sema_nil .val))))))
 sems_never
 sems_nil)))⟩
theorem ok_check_switches (T : Tb K mg) : FnOk P w K mg base CX0 1 T.c_check_switches.f T.c_check_switches.fd ["feeder", "switches"] (spD K m_check_switches) := fn_spD T.c_check_switches.F sc_check_switches fun cdv A outer s H E hr => ⟨_,
 (pss_one (ps_for PassesOwn.never rfl (pi_enum (by rfl) T.b_enumerate (pa_cons (pv 1) pa_nil)) (pg_tup rfl (pgs_cons (pg_name (i := 2) sc_check_switches.nd rfl (by first | exact .inl rfl | exact .inr rfl)) (pgs_cons (pg_name (i := 3) sc_check_switches.nd rfl (by first | exact .inl rfl | exact .inr rfl)) pgs_nil)))
 (pss_one (ps_if (PW.pt (pw_or (pt_not (pt_chain op_le op_le pe_int (pv 3) (pe_callB call_len_seq (by rfl) T.b_len (by decide +kernel) (pa_cons (pv 0) pa_nil)))) (pw_or (pt_cmpR (op_eqD (u64 hr)) (pe_ix (IxR.or ix_list ix_tup) (pe_ix (IxR.or ix_list ix_tup) (pv 0) (pe_op op_sub (pv 3) pe_int) (fun _ _ => rfl)) pe_int (fun _ _ => rfl)) pe_int (nomark _)) (pw_or1 (PW.pt (pw_and (pt_cmpR op_gt (pv 2) pe_int (nomark _)) (pw_and1 (pt_cmpR op_ge (pe_ix (IxR.or ix_list ix_tup) (pv 1) (pe_op op_sub (pv 2) pe_int) (fun _ _ => rfl)) (pv 3) (nomark _)))))))))
 pss_never
 pss_nil)))),
 (sems_for (semi_enum (sema_cons (sem_var .val 1) (sema_nil .val))) (semg_tup (semgs_cons (semg_name 2) (semgs_cons (semg_name 3) semgs_nil)))
 (sems_if (semt_or (semt_not (semt_test (sem_chain .any (s2_cmp _ .any) (s2_cmp _ .any) (sem_int 1 .any) (sem_var .any 3) (sem_cb (sc_len .any) (sema_cons (sem_var .any 0) (sema_nil .any)))))) (semt_or (semt_test (sem_op (s2_eq .any) (sem_op (s2_ix .any) (sem_op (s2_ix .any) (sem_var .any 0) (sem_op (s2_int _ .any) (sem_var .any 3) (sem_int 1 .any))) (sem_int 0 .any)) (sem_int 0 .any))) (semt_and (semt_test (sem_op (s2_cmp _ .any) (sem_var .any 2) (sem_int 0 .any))) (semt_test (sem_op (s2_cmp _ .any) (sem_op (s2_ix .any) (sem_var .any 1) (sem_op (s2_int _ .any) (sem_var .any 2) (sem_int 1 .any))) (sem_var .any 3))))))
 sems_never
 sems_nil))⟩
theorem ok_check_place (T : Tb K mg) : FnOk P w K mg base CX0 1 T.c_check_place.f T.c_check_place.fd ["feeder", "place"] (spD K m_check_place) := fn_spD T.c_check_place.F sc_check_place fun cdv A outer s H E hr => ⟨_,
 (pss_one (ps_if (pt_not (pt_chain op_le op_le pe_int (pv 1) (pe_callB call_len_seq (by rfl) T.b_len (by decide +kernel) (pa_cons (pv 0) pa_nil))))
 pss_never
 pss_nil)),
 (sems_if (semt_not (semt_test (sem_chain .any (s2_cmp _ .any) (s2_cmp _ .any) (sem_int 1 .any) (sem_var .any 1) (sem_cb (sc_len .any) (sema_cons (sem_var .any 0) (sema_nil .any))))))
 sems_never
 sems_nil)⟩
theorem ok_behind_of (T : Tb K mg) : FnOk P w K mg base CX0 1 T.c_behind_of.f T.c_behind_of.fd ["feeder", "place"] (spO K (.lst .val) m_behind_of) := fn_spO T.c_behind_of.F sc_behind_of fun cdv A outer s H E hr => ⟨_,
 (pss_cons (ps_set (i := 2) sc_behind_of.nd rfl (by first | exact .inl rfl | exact .inr rfl) (pe_lst (pa_cons (pv 1) pa_nil)))
 (pss_cons (ps_for PassesOwn.never rfl (pi_enum (by rfl) T.b_enumerate (pa_cons (pv 0) pa_nil)) (pg_tup rfl (pgs_cons (pg_name (i := 3) sc_behind_of.nd rfl (by first | exact .inl rfl | exact .inr rfl)) (pgs_cons (pg_name (i := 4) sc_behind_of.nd rfl (by first | exact .inl rfl | exact .inr rfl)) pgs_nil)))
 (pss_one (ps_if (pt_cmpR (op_inD (u65 hr)) (pe_ix (IxR.or ix_list ix_tup) (pv 4) pe_int (fun _ _ => rfl)) (pv 2) (by with_unfolding_all rfl))
 (pss_one (ps_expr (pe_bm PySem.F.plainAttrs_list PySem.F.slot_list_append PySem.F.type_list_append mt_append (pv 2) (pa_cons (pe_op op_add (pv 3) pe_int) pa_nil))))
 pss_nil)))
 (pss_one (ps_ret (pv 2))))),
 (sems_seq (sems_asgO (sem_lst (sema_cons (sem_var .val 1) (sema_nil .val))))
 (sems_seq (sems_for (semi_enum (sema_cons (sem_var .val 0) (sema_nil .val))) (semg_tup (semgs_cons (semg_name 3) (semgs_cons (semg_name 4) semgs_nil)))
 (sems_if (semt_test (sem_op (s2_in .any) (sem_op (s2_ix .any) (sem_var .any 4) (sem_int 0 .any)) (sem_var .any 2)))
 (sems_app (sem_op (s2_int _ .val) (sem_var .any 3) (sem_int 1 .any)))
 sems_nil))
 (sems_retV (.lst .val) 2)))⟩
theorem ok_clearing (T : Tb K mg) : FnOk P w K mg base CX0 1 T.c_clearing.f T.c_clearing.fd ["feeder", "switches", "place"] (spD K m_clearing) := fn_spD T.c_clearing.F sc_clearing fun cdv A outer s H E hr => ⟨_,
 (pss_cons (ps_set (i := 3) sc_clearing.nd rfl (by first | exact .inl rfl | exact .inr rfl) (pv 2))
 (pss_cons (ps_while PassesOwn.never (PW.pt (pw_and (pt_cmpR (op_notInD (u65 hr)) (pv 3) (pv 1) (by with_unfolding_all rfl)) (pw_and1 (pt_cmpR (op_neD (u64 hr)) (pe_ix (IxR.or ix_list ix_tup) (pe_ix (IxR.or ix_list ix_tup) (pv 0) (pe_op op_sub (pv 3) pe_int) (fun _ _ => rfl)) pe_int (fun _ _ => rfl)) pe_int (nomark _)))))
 (pss_one (ps_set (i := 3) sc_clearing.nd rfl (by first | exact .inl rfl | exact .inr rfl) (pe_ix (IxR.or ix_list ix_tup) (pe_ix (IxR.or ix_list ix_tup) (pv 0) (pe_op op_sub (pv 3) pe_int) (fun _ _ => rfl)) pe_int (fun _ _ => rfl)))))
 (pss_one (ps_ret (pv 3))))),
 (sems_seq (sems_asg (sem_var .val 2) (semg_name 3))
 (sems_seq (sems_while (semt_and (semt_test (sem_op (s2_notIn .any) (sem_var .any 3) (sem_var .any 1))) (semt_test (sem_op (s2_ne .any) (sem_op (s2_ix .any) (sem_op (s2_ix .any) (sem_var .any 0) (sem_op (s2_int _ .any) (sem_var .any 3) (sem_int 1 .any))) (sem_int 0 .any)) (sem_int 0 .any))))
 (sems_asg (sem_op (s2_ix .val) (sem_op (s2_ix .val) (sem_var .val 0) (sem_op (s2_int _ .any) (sem_var .any 3) (sem_int 1 .any))) (sem_int 0 .any)) (semg_name 3)))
 (sems_ret (sem_var .val 3))))⟩
theorem ok_out_for (T : Tb K mg) : FnOk P w K mg base CX0 4 T.c_out_for.f T.c_out_for.fd ["feeder", "switches", "place"] (spO K (.lst .val) m_out_for) := fn_spO T.c_out_for.F sc_out_for fun cdv A outer s H E hr => ⟨_,
 (pss_cons (ps_expr (pe_call (ok_check_feeder T) (hr.mono (by decide)) (by rfl) T.c_check_feeder.G T.c_check_feeder.F.kp T.c_check_feeder.B .nil passE0 (pa_cons (pv 0) pa_nil)))
 (pss_cons (ps_expr (pe_call (ok_check_switches T) (hr.mono (by decide)) (by rfl) T.c_check_switches.G T.c_check_switches.F.kp T.c_check_switches.B .nil passE0 (pa_cons (pv 0) (pa_cons (pv 1) pa_nil))))
 (pss_cons (ps_expr (pe_call (ok_check_place T) (hr.mono (by decide)) (by rfl) T.c_check_place.G T.c_check_place.F.kp T.c_check_place.B .nil passE0 (pa_cons (pv 0) (pa_cons (pv 2) pa_nil))))
 (pss_one (ps_ret (pe_call (ok_behind_of T) (hr.mono (by decide)) (by rfl) T.c_behind_of.G T.c_behind_of.F.kp T.c_behind_of.B .nil passE0 (pa_cons (pv 0) (pa_cons (pe_call (ok_clearing T) (hr.mono (by decide)) (by rfl) T.c_clearing.G T.c_clearing.F.kp T.c_clearing.B .nil passE0 (pa_cons (pv 0) (pa_cons (pv 1) (pa_cons (pv 2) pa_nil)))) pa_nil)))))))),
 (sems_seq (sems_drop (sem_call .val (sema_cons (sem_var .val 0) (sema_nil .val))))
 (sems_seq (sems_drop (sem_call .val (sema_cons (sem_var .val 0) (sema_cons (sem_var .val 1) (sema_nil .val)))))
 (sems_seq (sems_drop (sem_call .val (sema_cons (sem_var .val 0) (sema_cons (sem_var .val 2) (sema_nil .val)))))
 (sems_retO (sem_callO (sema_cons (sem_var .val 0) (sema_cons (sem_call .val (sema_cons (sem_var .val 0) (sema_cons (sem_var .val 1) (sema_cons (sem_var .val 2) (sema_nil .val))))) (sema_nil .val))))))))⟩
theorem ok_fraction (T : Tb K mg) : FnOk P w K mg base CX0 1 T.c_fraction.f T.c_fraction.fd ["number", "by"] (spD K m_fraction) := fn_spD T.c_fraction.F sc_fraction fun cdv A outer s H E hr => ⟨_,
 (pss_cons (ps_if (pt_cmpR op_lt (pv 1) pe_int (nomark _))
 (pss_one (ps_par (i := 0) (j := 1) rfl sc_fraction.nd rfl rfl (by decide) rfl rfl (pa_cons (pe_un un_neg (pv 0)) (pa_cons (pe_un un_neg (pv 1)) pa_nil)) (by rfl)))
 pss_nil)
 (pss_cons (ps_set (i := 2) sc_fraction.nd rfl (by first | exact .inl rfl | exact .inr rfl) (pe_callBfun cr_gcd (by rfl) T.g_gcd (pa_cons (pv 0) (pa_cons (pv 1) pa_nil))))
 (pss_one (ps_ret (pe_tup (pa_cons (pe_op op_fdivW (pv 0) (pv 2)) (pa_cons (pe_op op_fdivW (pv 1) (pv 2)) pa_nil))))))),
 (sems_seq (sems_if (semt_test (sem_op (s2_cmp _ .any) (sem_var .any 1) (sem_int 0 .any)))
 (sems_par (sema_cons (sem_neg .val (sem_var .any 0)) (sema_cons (sem_neg .val (sem_var .any 1)) (sema_nil .val))))
 sems_nil)
 (sems_seq (sems_asg (sem_cb (sc_gcd .val) (sema_cons (sem_var .any 0) (sema_cons (sem_var .any 1) (sema_nil .any)))) (semg_name 2))
 (sems_ret (sem_tup .val (sema_cons (sem_op (s2_intC cDiv cDiv_ok _ .val) (sem_var .any 0) (sem_var .any 2)) (sema_cons (sem_op (s2_intC cDiv cDiv_ok _ .val) (sem_var .any 1) (sem_var .any 2)) (sema_nil .val)))))))⟩
theorem ok_minus (T : Tb K mg) : FnOk P w K mg base CX0 2 T.c_minus.f T.c_minus.fd ["one", "two"] (spD K m_minus) := fn_spD T.c_minus.F sc_minus fun cdv A outer s H E hr => ⟨_,
 (pss_one (ps_ret (pe_call (ok_fraction T) (hr.mono (by decide)) (by rfl) T.c_fraction.G T.c_fraction.F.kp T.c_fraction.B .nil passE0 (pa_cons (pe_op op_sub (pe_op op_mulW (pe_ix (IxR.or ix_list ix_tup) (pv 0) pe_int (fun _ _ => rfl)) (pe_ix (IxR.or ix_list ix_tup) (pv 1) pe_int (fun _ _ => rfl))) (pe_op op_mulW (pe_ix (IxR.or ix_list ix_tup) (pv 1) pe_int (fun _ _ => rfl)) (pe_ix (IxR.or ix_list ix_tup) (pv 0) pe_int (fun _ _ => rfl)))) (pa_cons (pe_op op_mulW (pe_ix (IxR.or ix_list ix_tup) (pv 0) pe_int (fun _ _ => rfl)) (pe_ix (IxR.or ix_list ix_tup) (pv 1) pe_int (fun _ _ => rfl))) pa_nil))))),
 (sems_ret (sem_call .val (sema_cons (sem_op (s2_int _ .val) (sem_op (s2_intC cMul cMul_ok _ .any) (sem_op (s2_ix .any) (sem_var .any 0) (sem_int 0 .any)) (sem_op (s2_ix .any) (sem_var .any 1) (sem_int 1 .any))) (sem_op (s2_intC cMul cMul_ok _ .any) (sem_op (s2_ix .any) (sem_var .any 1) (sem_int 0 .any)) (sem_op (s2_ix .any) (sem_var .any 0) (sem_int 1 .any)))) (sema_cons (sem_op (s2_intC cMul cMul_ok _ .val) (sem_op (s2_ix .any) (sem_var .any 0) (sem_int 1 .any)) (sem_op (s2_ix .any) (sem_var .any 1) (sem_int 1 .any))) (sema_nil .val)))))⟩
theorem ok_people_of (T : Tb K mg) : FnOk P w K mg base CX0 2 T.c_people_of.f T.c_people_of.fd ["feeder", "place"] (spD K m_people_of) := fn_spD T.c_people_of.F sc_people_of fun cdv A outer s H E hr => ⟨_,
 (pss_one (ps_ret (pe_callB (cr_sum rfl) (by rfl) T.b_sum (by decide +kernel) (pa_cons (pe_lc (own := [("one", 2)]) rfl sc_people_of.nd (pi_seq (pe_call (ok_behind_of T) (hr.mono (by decide)) (by rfl) T.c_behind_of.G T.c_behind_of.F.kp T.c_behind_of.B .nil passE0 (pa_cons (pv 0) (pa_cons (pv 1) pa_nil)))) (blkOk_by (N := ["feeder", "place", "one"]) (sc := defScope s_people_of) (own := [("one", 2)]) (by decide +kernel)) (fun _ _ _ _ _ => (pg_name (i := 2) sc_people_of.nd rfl (by first | exact .inl rfl | exact .inr rfl))) (fun _ _ _ _ _ => pts_nil) (fun _ _ _ _ _ => (pe_ix (IxR.or ix_list ix_tup) (pe_ix (IxR.or ix_list ix_tup) (pv 0) (pe_op op_sub (pv 2) pe_int) (fun _ _ => rfl)) pe_int (fun _ _ => rfl)))) pa_nil)))),
 (sems_ret (sem_cb (sc_sum .val) (sema_cons (SemO.e (sem_lc (SemI.weak (semi_seq (SemO.e (sem_callO (sema_cons (sem_var .val 0) (sema_cons (sem_var .val 1) (sema_nil .val))))))) (semg_name 2) (by decide) semt_yes (sem_op (s2_ix .val) (sem_op (s2_ix .val) (sem_var .val 0) (sem_op (s2_int _ .any) (sem_var .any 2) (sem_int 1 .any))) (sem_int 1 .any)))) (sema_nil .any))))⟩
theorem ok_plus (T : Tb K mg) : FnOk P w K mg base CX0 2 T.c_plus.f T.c_plus.fd ["one", "two"] (spD K m_plus) := fn_spD T.c_plus.F sc_plus fun cdv A outer s H E hr => ⟨_,
 (pss_one (ps_ret (pe_call (ok_fraction T) (hr.mono (by decide)) (by rfl) T.c_fraction.G T.c_fraction.F.kp T.c_fraction.B .nil passE0 (pa_cons (pe_op op_add (pe_op op_mulW (pe_ix (IxR.or ix_list ix_tup) (pv 0) pe_int (fun _ _ => rfl)) (pe_ix (IxR.or ix_list ix_tup) (pv 1) pe_int (fun _ _ => rfl))) (pe_op op_mulW (pe_ix (IxR.or ix_list ix_tup) (pv 1) pe_int (fun _ _ => rfl)) (pe_ix (IxR.or ix_list ix_tup) (pv 0) pe_int (fun _ _ => rfl)))) (pa_cons (pe_op op_mulW (pe_ix (IxR.or ix_list ix_tup) (pv 0) pe_int (fun _ _ => rfl)) (pe_ix (IxR.or ix_list ix_tup) (pv 1) pe_int (fun _ _ => rfl))) pa_nil))))),
 (sems_ret (sem_call .val (sema_cons (sem_op (s2_int _ .val) (sem_op (s2_intC cMul cMul_ok _ .any) (sem_op (s2_ix .any) (sem_var .any 0) (sem_int 0 .any)) (sem_op (s2_ix .any) (sem_var .any 1) (sem_int 1 .any))) (sem_op (s2_intC cMul cMul_ok _ .any) (sem_op (s2_ix .any) (sem_var .any 1) (sem_int 0 .any)) (sem_op (s2_ix .any) (sem_var .any 0) (sem_int 1 .any)))) (sema_cons (sem_op (s2_intC cMul cMul_ok _ .val) (sem_op (s2_ix .any) (sem_var .any 0) (sem_int 1 .any)) (sem_op (s2_ix .any) (sem_var .any 1) (sem_int 1 .any))) (sema_nil .val)))))⟩
theorem ok_times (T : Tb K mg) : FnOk P w K mg base CX0 2 T.c_times.f T.c_times.fd ["one", "two"] (spD K m_times) := fn_spD T.c_times.F sc_times fun cdv A outer s H E hr => ⟨_,
 (pss_one (ps_ret (pe_call (ok_fraction T) (hr.mono (by decide)) (by rfl) T.c_fraction.G T.c_fraction.F.kp T.c_fraction.B .nil passE0 (pa_cons (pe_op op_mulW (pe_ix (IxR.or ix_list ix_tup) (pv 0) pe_int (fun _ _ => rfl)) (pe_ix (IxR.or ix_list ix_tup) (pv 1) pe_int (fun _ _ => rfl))) (pa_cons (pe_op op_mulW (pe_ix (IxR.or ix_list ix_tup) (pv 0) pe_int (fun _ _ => rfl)) (pe_ix (IxR.or ix_list ix_tup) (pv 1) pe_int (fun _ _ => rfl))) pa_nil))))),
 (sems_ret (sem_call .val (sema_cons (sem_op (s2_intC cMul cMul_ok _ .val) (sem_op (s2_ix .any) (sem_var .any 0) (sem_int 0 .any)) (sem_op (s2_ix .any) (sem_var .any 1) (sem_int 0 .any))) (sema_cons (sem_op (s2_intC cMul cMul_ok _ .val) (sem_op (s2_ix .any) (sem_var .any 0) (sem_int 1 .any)) (sem_op (s2_ix .any) (sem_var .any 1) (sem_int 1 .any))) (sema_nil .val)))))⟩
theorem ok_lost_of (T : Tb K mg) : FnOk P w K mg base CX0 3 T.c_lost_of.f T.c_lost_of.fd ["feeder", "switches"] (spD K m_lost_of) := fn_spD T.c_lost_of.F sc_lost_of fun cdv A outer s H E hr => ⟨_,
 (pss_cons (ps_set (i := 2) sc_lost_of.nd rfl (by first | exact .inl rfl | exact .inr rfl) (pe_tup (pa_cons pe_int (pa_cons pe_int pa_nil))))
 (pss_cons (ps_for PassesOwn.never rfl (pi_enum (by rfl) T.b_enumerate (pa_cons (pv 0) pa_nil)) (pg_tup rfl (pgs_cons (pg_name (i := 3) sc_lost_of.nd rfl (by first | exact .inl rfl | exact .inr rfl)) (pgs_cons (pg_tup rfl (pgs_cons (pg_name (i := 4) sc_lost_of.nd rfl (by first | exact .inl rfl | exact .inr rfl)) (pgs_cons (pg_name (i := 4) sc_lost_of.nd rfl (by first | exact .inl rfl | exact .inr rfl)) (pgs_cons (pg_name (i := 5) sc_lost_of.nd rfl (by first | exact .inl rfl | exact .inr rfl)) (pgs_cons (pg_name (i := 6) sc_lost_of.nd rfl (by first | exact .inl rfl | exact .inr rfl)) pgs_nil))))) pgs_nil)))
 (pss_cons (ps_set (i := 7) sc_lost_of.nd rfl (by first | exact .inl rfl | exact .inr rfl) (pe_call (ok_people_of T) (hr.mono (by decide)) (by rfl) T.c_people_of.G T.c_people_of.F.kp T.c_people_of.B .nil passE0 (pa_cons (pv 0) (pa_cons (pe_call (ok_clearing T) (hr.mono (by decide)) (by rfl) T.c_clearing.G T.c_clearing.F.kp T.c_clearing.B .nil passE0 (pa_cons (pv 0) (pa_cons (pv 1) (pa_cons (pe_op op_add (pv 3) pe_int) pa_nil)))) pa_nil))))
 (pss_one (ps_set (i := 2) sc_lost_of.nd rfl (by first | exact .inl rfl | exact .inr rfl) (pe_call (ok_plus T) (hr.mono (by decide)) (by rfl) T.c_plus.G T.c_plus.F.kp T.c_plus.B .nil passE0 (pa_cons (pv 2) (pa_cons (pe_call (ok_times T) (hr.mono (by decide)) (by rfl) T.c_times.G T.c_times.F.kp T.c_times.B .nil passE0 (pa_cons (pe_call (ok_times T) (hr.mono (by decide)) (by rfl) T.c_times.G T.c_times.F.kp T.c_times.B .nil passE0 (pa_cons (pv 5) (pa_cons (pv 6) pa_nil))) (pa_cons (pe_tup (pa_cons (pv 7) (pa_cons pe_int pa_nil))) pa_nil))) pa_nil)))))))
 (pss_one (ps_ret (pv 2))))),
 (sems_seq (sems_asg (sem_tup .val (sema_cons (sem_int 0 .val) (sema_cons (sem_int 1 .val) (sema_nil .val)))) (semg_name 2))
 (sems_seq (sems_for (semi_enum (sema_cons (sem_var .val 0) (sema_nil .val))) (semg_tup (semgs_cons (semg_name 3) (semgs_cons (semg_tup (semgs_cons (semg_name 4) (semgs_cons (semg_name 4) (semgs_cons (semg_name 5) (semgs_cons (semg_name 6) semgs_nil))))) semgs_nil)))
 (sems_seq (sems_asg (sem_call .val (sema_cons (sem_var .val 0) (sema_cons (sem_call .val (sema_cons (sem_var .val 0) (sema_cons (sem_var .val 1) (sema_cons (sem_op (s2_int _ .val) (sem_var .any 3) (sem_int 1 .any)) (sema_nil .val))))) (sema_nil .val)))) (semg_name 7))
 (sems_asg (sem_call .val (sema_cons (sem_var .val 2) (sema_cons (sem_call .val (sema_cons (sem_call .val (sema_cons (sem_var .val 5) (sema_cons (sem_var .val 6) (sema_nil .val)))) (sema_cons (sem_tup .val (sema_cons (sem_var .val 7) (sema_cons (sem_int 1 .val) (sema_nil .val)))) (sema_nil .val)))) (sema_nil .val)))) (semg_name 2))))
 (sems_ret (sem_var .val 2))))⟩
theorem ok_saved_of (T : Tb K mg) : FnOk P w K mg base CX0 4 T.c_saved_of.f T.c_saved_of.fd ["feeder", "switches", "place"] (spD K m_saved_of) := fn_spD T.c_saved_of.F sc_saved_of fun cdv A outer s H E hr => ⟨_,
 (pss_cons (ps_if (PW.pt (pw_or (pt_cmpR (op_inD (u65 hr)) (pv 2) (pv 1) (by with_unfolding_all rfl)) (pw_or1 (pt_cmpR (op_eqD (u64 hr)) (pe_ix (IxR.or ix_list ix_tup) (pe_ix (IxR.or ix_list ix_tup) (pv 0) (pe_op op_sub (pv 2) pe_int) (fun _ _ => rfl)) pe_int (fun _ _ => rfl)) pe_int (nomark _)))))
 (pss_one (ps_ret (pe_tup (pa_cons pe_int (pa_cons pe_int pa_nil)))))
 pss_nil)
 (pss_one (ps_ret (pe_call (ok_minus T) (hr.mono (by decide)) (by rfl) T.c_minus.G T.c_minus.F.kp T.c_minus.B .nil passE0 (pa_cons (pe_call (ok_lost_of T) (hr.mono (by decide)) (by rfl) T.c_lost_of.G T.c_lost_of.F.kp T.c_lost_of.B .nil passE0 (pa_cons (pv 0) (pa_cons (pv 1) pa_nil))) (pa_cons (pe_call (ok_lost_of T) (hr.mono (by decide)) (by rfl) T.c_lost_of.G T.c_lost_of.F.kp T.c_lost_of.B .nil passE0 (pa_cons (pv 0) (pa_cons (pe_callB cr_sortedI (by rfl) T.b_sorted (by decide +kernel) (pa_cons (pe_lst (StX.pa_star (pv 1) (pa_cons (pv 2) pa_nil))) pa_nil)) pa_nil))) pa_nil)))))),
 (sems_seq (sems_if (semt_or (semt_test (sem_op (s2_in .any) (sem_var .any 2) (sem_var .any 1))) (semt_test (sem_op (s2_eq .any) (sem_op (s2_ix .any) (sem_op (s2_ix .any) (sem_var .any 0) (sem_op (s2_int _ .any) (sem_var .any 2) (sem_int 1 .any))) (sem_int 0 .any)) (sem_int 0 .any))))
 (sems_ret (sem_tup .val (sema_cons (sem_int 0 .val) (sema_cons (sem_int 1 .val) (sema_nil .val)))))
 sems_nil)
 (sems_ret (sem_call .val (sema_cons (sem_call .val (sema_cons (sem_var .val 0) (sema_cons (sem_var .val 1) (sema_nil .val)))) (sema_cons (sem_call .val (sema_cons (sem_var .val 0) (sema_cons (SemO.e (sem_cbO sc_sorted (sema_cons (SemO.e (sem_lst (sema_star (sem_var (.lst .val) 1) (sema_cons (sem_var .val 2) (sema_nil .val))))) (sema_nil .any)))) (sema_nil .val)))) (sema_nil .val))))))⟩
theorem ok_saved (T : Tb K mg) : FnOk P w K mg base CX0 5 T.c_saved.f T.c_saved.fd ["feeder", "switches", "place"] (spD K m_saved) := fn_spD T.c_saved.F sc_saved fun cdv A outer s H E hr => ⟨_,
 (pss_cons (ps_expr (pe_call (ok_check_feeder T) (hr.mono (by decide)) (by rfl) T.c_check_feeder.G T.c_check_feeder.F.kp T.c_check_feeder.B .nil passE0 (pa_cons (pv 0) pa_nil)))
 (pss_cons (ps_expr (pe_call (ok_check_switches T) (hr.mono (by decide)) (by rfl) T.c_check_switches.G T.c_check_switches.F.kp T.c_check_switches.B .nil passE0 (pa_cons (pv 0) (pa_cons (pv 1) pa_nil))))
 (pss_cons (ps_expr (pe_call (ok_check_place T) (hr.mono (by decide)) (by rfl) T.c_check_place.G T.c_check_place.F.kp T.c_check_place.B .nil passE0 (pa_cons (pv 0) (pa_cons (pv 2) pa_nil))))
 (pss_one (ps_ret (pe_call (ok_saved_of T) (hr.mono (by decide)) (by rfl) T.c_saved_of.G T.c_saved_of.F.kp T.c_saved_of.B .nil passE0 (pa_cons (pv 0) (pa_cons (pv 1) (pa_cons (pv 2) pa_nil))))))))),
 (sems_seq (sems_drop (sem_call .val (sema_cons (sem_var .val 0) (sema_nil .val))))
 (sems_seq (sems_drop (sem_call .val (sema_cons (sem_var .val 0) (sema_cons (sem_var .val 1) (sema_nil .val)))))
 (sems_seq (sems_drop (sem_call .val (sema_cons (sem_var .val 0) (sema_cons (sem_var .val 2) (sema_nil .val)))))
 (sems_ret (sem_call .val (sema_cons (sem_var .val 0) (sema_cons (sem_var .val 1) (sema_cons (sem_var .val 2) (sema_nil .val)))))))))⟩
theorem ok_lost_hours (T : Tb K mg) : FnOk P w K mg base CX0 4 T.c_lost_hours.f T.c_lost_hours.fd ["feeder", "switches"] (spD K m_lost_hours) := fn_spD T.c_lost_hours.F sc_lost_hours fun cdv A outer s H E hr => ⟨_,
 (pss_cons (ps_expr (pe_call (ok_check_feeder T) (hr.mono (by decide)) (by rfl) T.c_check_feeder.G T.c_check_feeder.F.kp T.c_check_feeder.B .nil passE0 (pa_cons (pv 0) pa_nil)))
 (pss_cons (ps_expr (pe_call (ok_check_switches T) (hr.mono (by decide)) (by rfl) T.c_check_switches.G T.c_check_switches.F.kp T.c_check_switches.B .nil passE0 (pa_cons (pv 0) (pa_cons (pv 1) pa_nil))))
 (pss_one (ps_ret (pe_call (ok_lost_of T) (hr.mono (by decide)) (by rfl) T.c_lost_of.G T.c_lost_of.F.kp T.c_lost_of.B .nil passE0 (pa_cons (pv 0) (pa_cons (pv 1) pa_nil))))))),
 (sems_seq (sems_drop (sem_call .val (sema_cons (sem_var .val 0) (sema_nil .val))))
 (sems_seq (sems_drop (sem_call .val (sema_cons (sem_var .val 0) (sema_cons (sem_var .val 1) (sema_nil .val)))))
 (sems_ret (sem_call .val (sema_cons (sem_var .val 0) (sema_cons (sem_var .val 1) (sema_nil .val)))))))⟩
theorem ok__law_plus (T : Tb K mg) : FnOk P w K mg base CX0 2 T.c__law_plus.f T.c__law_plus.fd ["one", "two"] (spD K m__law_plus) := fn_spD T.c__law_plus.F sc__law_plus fun cdv A outer s H E hr => ⟨_,
 (pss_one (ps_ret (pe_call (ok__law_low T) (hr.mono (by decide)) (by rfl) T.c__law_low.G T.c__law_low.F.kp T.c__law_low.B .nil passE0 (pa_cons (pe_op op_add (pe_op op_mulW (pe_ix (IxR.or ix_list ix_tup) (pv 0) pe_int (fun _ _ => rfl)) (pe_ix (IxR.or ix_list ix_tup) (pv 1) pe_int (fun _ _ => rfl))) (pe_op op_mulW (pe_ix (IxR.or ix_list ix_tup) (pv 1) pe_int (fun _ _ => rfl)) (pe_ix (IxR.or ix_list ix_tup) (pv 0) pe_int (fun _ _ => rfl)))) (pa_cons (pe_op op_mulW (pe_ix (IxR.or ix_list ix_tup) (pv 0) pe_int (fun _ _ => rfl)) (pe_ix (IxR.or ix_list ix_tup) (pv 1) pe_int (fun _ _ => rfl))) pa_nil))))),
 (sems_ret (sem_call .val (sema_cons (sem_op (s2_int _ .val) (sem_op (s2_intC cMul cMul_ok _ .any) (sem_op (s2_ix .any) (sem_var .any 0) (sem_int 0 .any)) (sem_op (s2_ix .any) (sem_var .any 1) (sem_int 1 .any))) (sem_op (s2_intC cMul cMul_ok _ .any) (sem_op (s2_ix .any) (sem_var .any 1) (sem_int 0 .any)) (sem_op (s2_ix .any) (sem_var .any 0) (sem_int 1 .any)))) (sema_cons (sem_op (s2_intC cMul cMul_ok _ .val) (sem_op (s2_ix .any) (sem_var .any 0) (sem_int 1 .any)) (sem_op (s2_ix .any) (sem_var .any 1) (sem_int 1 .any))) (sema_nil .val)))))⟩
theorem ok__law_total (T : Tb K mg) : FnOk P w K mg base CX0 3 T.c__law_total.f T.c__law_total.fd ["told"] (spD K m__law_total) := fn_spD T.c__law_total.F sc__law_total fun cdv A outer s H E hr => ⟨_,
 (pss_cons (ps_set (i := 1) sc__law_total.nd rfl (by first | exact .inl rfl | exact .inr rfl) (pe_tup (pa_cons pe_int (pa_cons pe_int pa_nil))))
 (pss_cons (ps_for PassesOwn.never rfl (pi_seq (pv 0)) (pg_name (i := 2) sc__law_total.nd rfl (by first | exact .inl rfl | exact .inr rfl))
 (pss_one (ps_set (i := 1) sc__law_total.nd rfl (by first | exact .inl rfl | exact .inr rfl) (pe_call (ok__law_plus T) (hr.mono (by decide)) (by rfl) T.c__law_plus.G T.c__law_plus.F.kp T.c__law_plus.B .nil passE0 (pa_cons (pv 1) (pa_cons (pv 2) pa_nil))))))
 (pss_one (ps_ret (pv 1))))),
 (sems_seq (sems_asg (sem_tup .val (sema_cons (sem_int 0 .val) (sema_cons (sem_int 1 .val) (sema_nil .val)))) (semg_name 1))
 (sems_seq (sems_for (semi_seq (sem_var .val 0)) (semg_name 2)
 (sems_asg (sem_call .val (sema_cons (sem_var .val 1) (sema_cons (sem_var .val 2) (sema_nil .val)))) (semg_name 1)))
 (sems_ret (sem_var .val 1))))⟩
theorem ok__law_times (T : Tb K mg) : FnOk P w K mg base CX0 2 T.c__law_times.f T.c__law_times.fd ["one", "two"] (spD K m__law_times) := fn_spD T.c__law_times.F sc__law_times fun cdv A outer s H E hr => ⟨_,
 (pss_one (ps_ret (pe_call (ok__law_low T) (hr.mono (by decide)) (by rfl) T.c__law_low.G T.c__law_low.F.kp T.c__law_low.B .nil passE0 (pa_cons (pe_op op_mulW (pe_ix (IxR.or ix_list ix_tup) (pv 0) pe_int (fun _ _ => rfl)) (pe_ix (IxR.or ix_list ix_tup) (pv 1) pe_int (fun _ _ => rfl))) (pa_cons (pe_op op_mulW (pe_ix (IxR.or ix_list ix_tup) (pv 0) pe_int (fun _ _ => rfl)) (pe_ix (IxR.or ix_list ix_tup) (pv 1) pe_int (fun _ _ => rfl))) pa_nil))))),
 (sems_ret (sem_call .val (sema_cons (sem_op (s2_intC cMul cMul_ok _ .val) (sem_op (s2_ix .any) (sem_var .any 0) (sem_int 0 .any)) (sem_op (s2_ix .any) (sem_var .any 1) (sem_int 0 .any))) (sema_cons (sem_op (s2_intC cMul cMul_ok _ .val) (sem_op (s2_ix .any) (sem_var .any 0) (sem_int 1 .any)) (sem_op (s2_ix .any) (sem_var .any 1) (sem_int 1 .any))) (sema_nil .val)))))⟩
theorem ok__law_way (T : Tb K mg) : FnOk P w K mg base CX0 1 T.c__law_way.f T.c__law_way.fd ["feeder", "place"] (spD K m__law_way) := fn_spD T.c__law_way.F sc__law_way fun cdv A outer s H E hr => ⟨_,
 (pss_cons (ps_set (i := 2) sc__law_way.nd rfl (by first | exact .inl rfl | exact .inr rfl) (pe_lst (pa_cons (pv 1) pa_nil)))
 (pss_cons (ps_while PassesOwn.never (pt_cmpR (op_neD (u64 hr)) (pe_ix (IxR.or ix_list ix_tup) (pe_ix (IxR.or ix_list ix_tup) (pv 0) (pe_op op_sub (pe_ix (IxR.or ix_list ix_tup) (pv 2) pe_int (fun _ _ => rfl)) pe_int) (fun _ _ => rfl)) pe_int (fun _ _ => rfl)) pe_int (nomark _))
 (pss_one (ps_set (i := 2) sc__law_way.nd rfl (by first | exact .inl rfl | exact .inr rfl) (pe_op op_cat (pe_lst (pa_cons (pe_ix (IxR.or ix_list ix_tup) (pe_ix (IxR.or ix_list ix_tup) (pv 0) (pe_op op_sub (pe_ix (IxR.or ix_list ix_tup) (pv 2) pe_int (fun _ _ => rfl)) pe_int) (fun _ _ => rfl)) pe_int (fun _ _ => rfl)) pa_nil)) (pv 2)))))
 (pss_one (ps_ret (pv 2))))),
 (sems_seq (sems_asg (SemO.e (sem_lst (sema_cons (sem_var .val 1) (sema_nil .val)))) (semg_name 2))
 (sems_seq (sems_while (semt_test (sem_op (s2_ne .any) (sem_op (s2_ix .any) (sem_op (s2_ix .any) (sem_var .any 0) (sem_op (s2_int _ .any) (sem_op (s2_ix .any) (sem_var .any 2) (sem_int 0 .any)) (sem_int 1 .any))) (sem_int 0 .any)) (sem_int 0 .any)))
 (sems_asg (SemO.e (sem_opO s2_cat (SemO.e (sem_lst (sema_cons (sem_op (s2_ix .val) (sem_op (s2_ix .val) (sem_var .val 0) (sem_op (s2_int _ .any) (sem_op (s2_ix .any) (sem_var .any 2) (sem_int 0 .any)) (sem_int 1 .any))) (sem_int 0 .any)) (sema_nil .val)))) (sem_var (.lst .val) 2))) (semg_name 2)))
 (sems_ret (sem_var .val 2))))⟩
theorem ok__law_out (T : Tb K mg) : FnOk P w K mg base CX0 2 T.c__law_out.f T.c__law_out.fd ["feeder", "switches", "place"] (spD K m__law_out) := fn_spD T.c__law_out.F sc__law_out fun cdv A outer s H E hr => ⟨_,
 (pss_cons (ps_set (i := 3) sc__law_out.nd rfl (by first | exact .inl rfl | exact .inr rfl) (pe_call (ok__law_way T) (hr.mono (by decide)) (by rfl) T.c__law_way.G T.c__law_way.F.kp T.c__law_way.B .nil passE0 (pa_cons (pv 0) (pa_cons (pv 2) pa_nil))))
 (pss_cons (ps_set (i := 4) sc__law_out.nd rfl (by first | exact .inl rfl | exact .inr rfl) (pe_ix (IxR.or ix_list ix_tup) (pe_lc (own := [("one", 5)]) rfl sc__law_out.nd (pi_seq (pv 3)) (blkOk_by (N := ["feeder", "switches", "place", "way", "head", "one"]) (sc := defScope s__law_out) (own := [("one", 5)]) (by decide +kernel)) (fun _ _ _ _ _ => (pg_name (i := 5) sc__law_out.nd rfl (by first | exact .inl rfl | exact .inr rfl))) (fun _ _ _ _ _ => (pts_one (PW.pt (pw_or (pt_cmpR (op_eqD (u64 hr)) (pv 5) (pe_ix (IxR.or ix_list ix_tup) (pv 3) pe_int (fun _ _ => rfl)) (nomark _)) (pw_or1 (pt_cmpR (op_inD (u65 hr)) (pv 5) (pv 1) (by with_unfolding_all rfl))))))) (fun _ _ _ _ _ => (pv 5))) (pe_un un_neg pe_int) (fun _ _ => rfl)))
 (pss_one (ps_ret (pe_lc (own := [("one", 5)]) rfl sc__law_out.nd (pi_range2 (by rfl) T.b_range (pa_cons pe_int (pa_cons (pe_op op_add (pe_callB call_len_seq (by rfl) T.b_len (by decide +kernel) (pa_cons (pv 0) pa_nil)) pe_int) pa_nil))) (blkOk_by (N := ["feeder", "switches", "place", "way", "head", "one"]) (sc := defScope s__law_out) (own := [("one", 5)]) (by decide +kernel)) (fun _ _ _ _ _ => (pg_name (i := 5) sc__law_out.nd rfl (by first | exact .inl rfl | exact .inr rfl))) (fun _ _ _ _ _ => (pts_one (pt_cmpR (op_inD (u65 hr)) (pv 4) (pe_call (ok__law_way T) (hr.mono (by decide)) (by rfl) T.c__law_way.G T.c__law_way.F.kp T.c__law_way.B .nil passE0 (pa_cons (pv 0) (pa_cons (pv 5) pa_nil))) (by with_unfolding_all rfl)))) (fun _ _ _ _ _ => (pv 5))))))),
 (sems_seq (sems_asg (sem_call .val (sema_cons (sem_var .val 0) (sema_cons (sem_var .val 2) (sema_nil .val)))) (semg_name 3))
 (sems_seq (sems_asg (sem_op (s2_ix .val) (SemO.e (sem_lc (SemI.weak (semi_seq (sem_var .val 3))) (semg_name 5) (by decide) (semt_or (semt_test (sem_op (s2_eq .any) (sem_var .any 5) (sem_op (s2_ix .any) (sem_var .any 3) (sem_int 0 .any)))) (semt_test (sem_op (s2_in .any) (sem_var .any 5) (sem_var .any 1)))) (sem_var .val 5))) (sem_neg .any (sem_int 1 .any))) (semg_name 4))
 (sems_ret (SemO.e (sem_lc (SemI.weak (semi_range2 (sema_cons (sem_int 1 .any) (sema_cons (sem_op (s2_int _ .any) (sem_cb (sc_len .any) (sema_cons (sem_var .any 0) (sema_nil .any))) (sem_int 1 .any)) (sema_nil .any))))) (semg_name 5) (by decide) (semt_test (sem_op (s2_in .any) (sem_var .any 4) (sem_call .any (sema_cons (sem_var .val 0) (sema_cons (sem_var .val 5) (sema_nil .val)))))) (sem_var .val 5))))))⟩
theorem ok__law_lost (T : Tb K mg) : FnOk P w K mg base CX0 4 T.c__law_lost.f T.c__law_lost.fd ["feeder", "switches"] (spD K m__law_lost) := fn_spD T.c__law_lost.F sc__law_lost fun cdv A outer s H E hr => ⟨_,
 (pss_cons (ps_set (i := 2) sc__law_lost.nd rfl (by first | exact .inl rfl | exact .inr rfl) (pe_lst pa_nil))
 (pss_cons (ps_for PassesOwn.never rfl (pi_range2 (by rfl) T.b_range (pa_cons pe_int (pa_cons (pe_op op_add (pe_callB call_len_seq (by rfl) T.b_len (by decide +kernel) (pa_cons (pv 0) pa_nil)) pe_int) pa_nil))) (pg_name (i := 3) sc__law_lost.nd rfl (by first | exact .inl rfl | exact .inr rfl))
 (pss_cons (ps_asg (pe_ix (IxR.or ix_list ix_tup) (pv 0) (pe_op op_sub (pv 3) pe_int) (fun _ _ => rfl)) (pg_tup rfl (pgs_cons (pg_name (i := 4) sc__law_lost.nd rfl (by first | exact .inl rfl | exact .inr rfl)) (pgs_cons (pg_name (i := 5) sc__law_lost.nd rfl (by first | exact .inl rfl | exact .inr rfl)) (pgs_cons (pg_name (i := 6) sc__law_lost.nd rfl (by first | exact .inl rfl | exact .inr rfl)) (pgs_cons (pg_name (i := 7) sc__law_lost.nd rfl (by first | exact .inl rfl | exact .inr rfl)) pgs_nil))))))
 (pss_cons (ps_set (i := 8) sc__law_lost.nd rfl (by first | exact .inl rfl | exact .inr rfl) (pe_callB (cr_sum rfl) (by rfl) T.b_sum (by decide +kernel) (pa_cons (pe_lc (own := [("one", 9)]) rfl sc__law_lost.nd (pi_seq (pe_call (ok__law_out T) (hr.mono (by decide)) (by rfl) T.c__law_out.G T.c__law_out.F.kp T.c__law_out.B .nil passE0 (pa_cons (pv 0) (pa_cons (pv 1) (pa_cons (pv 3) pa_nil))))) (blkOk_by (N := ["feeder", "switches", "parts", "place", "up", "people", "faults", "hours", "out", "one"]) (sc := defScope s__law_lost) (own := [("one", 9)]) (by decide +kernel)) (fun _ _ _ _ _ => (pg_name (i := 9) sc__law_lost.nd rfl (by first | exact .inl rfl | exact .inr rfl))) (fun _ _ _ _ _ => pts_nil) (fun _ _ _ _ _ => (pe_ix (IxR.or ix_list ix_tup) (pe_ix (IxR.or ix_list ix_tup) (pv 0) (pe_op op_sub (pv 9) pe_int) (fun _ _ => rfl)) pe_int (fun _ _ => rfl)))) pa_nil)))
 (pss_one (ps_expr (pe_bm PySem.F.plainAttrs_list PySem.F.slot_list_append PySem.F.type_list_append mt_append (pv 2) (pa_cons (pe_call (ok__law_times T) (hr.mono (by decide)) (by rfl) T.c__law_times.G T.c__law_times.F.kp T.c__law_times.B .nil passE0 (pa_cons (pe_call (ok__law_times T) (hr.mono (by decide)) (by rfl) T.c__law_times.G T.c__law_times.F.kp T.c__law_times.B .nil passE0 (pa_cons (pv 6) (pa_cons (pv 7) pa_nil))) (pa_cons (pe_tup (pa_cons (pv 8) (pa_cons pe_int pa_nil))) pa_nil))) pa_nil)))))))
 (pss_one (ps_ret (pe_call (ok__law_total T) (hr.mono (by decide)) (by rfl) T.c__law_total.G T.c__law_total.F.kp T.c__law_total.B .nil passE0 (pa_cons (pv 2) pa_nil)))))),
 (sems_seq (sems_asgO (sem_lst (sema_nil .val)))
 (sems_seq (sems_for (semi_range2 (sema_cons (sem_int 1 .any) (sema_cons (sem_op (s2_int _ .any) (sem_cb (sc_len .any) (sema_cons (sem_var .any 0) (sema_nil .any))) (sem_int 1 .any)) (sema_nil .any)))) (semg_name 3)
 (sems_seq (sems_asg (sem_op (s2_ix .val) (sem_var .val 0) (sem_op (s2_int _ .any) (sem_var .any 3) (sem_int 1 .any))) (semg_tup (semgs_cons (semg_name 4) (semgs_cons (semg_name 5) (semgs_cons (semg_name 6) (semgs_cons (semg_name 7) semgs_nil))))))
 (sems_seq (sems_asg (sem_cb (sc_sum .val) (sema_cons (SemO.e (sem_lc (SemI.weak (semi_seq (sem_call .val (sema_cons (sem_var .val 0) (sema_cons (sem_var .val 1) (sema_cons (sem_var .val 3) (sema_nil .val))))))) (semg_name 9) (by decide) semt_yes (sem_op (s2_ix .val) (sem_op (s2_ix .val) (sem_var .val 0) (sem_op (s2_int _ .any) (sem_var .any 9) (sem_int 1 .any))) (sem_int 1 .any)))) (sema_nil .any))) (semg_name 8))
 (sems_app (sem_call .val (sema_cons (sem_call .val (sema_cons (sem_var .val 6) (sema_cons (sem_var .val 7) (sema_nil .val)))) (sema_cons (sem_tup .val (sema_cons (sem_var .val 8) (sema_cons (sem_int 1 .val) (sema_nil .val)))) (sema_nil .val))))))))
 (sems_frz 2 (sems_ret (sem_call .val (sema_cons (sem_var .val 2) (sema_nil .val)))))))⟩
theorem ok__law_less (T : Tb K mg) : FnOk P w K mg base CX0 1 T.c__law_less.f T.c__law_less.fd ["one", "two"] (spD K m__law_less) := fn_spD T.c__law_less.F sc__law_less fun cdv A outer s H E hr => ⟨_,
 (pss_one (ps_ret (pe_cmpR op_lt (pe_op op_mulW (pe_ix (IxR.or ix_list ix_tup) (pv 0) pe_int (fun _ _ => rfl)) (pe_ix (IxR.or ix_list ix_tup) (pv 1) pe_int (fun _ _ => rfl))) (pe_op op_mulW (pe_ix (IxR.or ix_list ix_tup) (pv 1) pe_int (fun _ _ => rfl)) (pe_ix (IxR.or ix_list ix_tup) (pv 0) pe_int (fun _ _ => rfl))) (nomark _)))),
 (sems_ret (sem_op (s2_cmp _ .val) (sem_op (s2_intC cMul cMul_ok _ .any) (sem_op (s2_ix .any) (sem_var .any 0) (sem_int 0 .any)) (sem_op (s2_ix .any) (sem_var .any 1) (sem_int 1 .any))) (sem_op (s2_intC cMul cMul_ok _ .any) (sem_op (s2_ix .any) (sem_var .any 1) (sem_int 0 .any)) (sem_op (s2_ix .any) (sem_var .any 0) (sem_int 1 .any)))))⟩
theorem ok__law_saves (T : Tb K mg) : FnOk P w K mg base CX0 4 T.c__law_saves.f T.c__law_saves.fd ["feeder", "switches", "place"] (spD K m__law_saves) := fn_spD T.c__law_saves.F sc__law_saves fun cdv A outer s H E hr => ⟨_,
 (pss_cons (ps_if (PW.pt (pw_or (pt_cmpR (op_inD (u65 hr)) (pv 2) (pv 1) (by with_unfolding_all rfl)) (pw_or1 (pt_cmpR (op_eqD (u64 hr)) (pe_ix (IxR.or ix_list ix_tup) (pe_ix (IxR.or ix_list ix_tup) (pv 0) (pe_op op_sub (pv 2) pe_int) (fun _ _ => rfl)) pe_int (fun _ _ => rfl)) pe_int (nomark _)))))
 (pss_one (ps_ret (pe_tup (pa_cons pe_int (pa_cons pe_int pa_nil)))))
 pss_nil)
 (pss_cons (ps_set (i := 3) sc__law_saves.nd rfl (by first | exact .inl rfl | exact .inr rfl) (pe_call (ok__law_way T) (hr.mono (by decide)) (by rfl) T.c__law_way.G T.c__law_way.F.kp T.c__law_way.B .nil passE0 (pa_cons (pv 0) (pa_cons (pv 2) pa_nil))))
 (pss_cons (ps_set (i := 4) sc__law_saves.nd rfl (by first | exact .inl rfl | exact .inr rfl) (pe_ix (IxR.or ix_list ix_tup) (pe_lc (own := [("one", 6)]) rfl sc__law_saves.nd (pi_seq (pv 3)) (blkOk_by (N := ["feeder", "switches", "place", "way", "head", "parts", "one", "own", "cleared", "aside", "people", "spot"]) (sc := defScope s__law_saves) (own := [("one", 6)]) (by decide +kernel)) (fun _ _ _ _ _ => (pg_name (i := 6) sc__law_saves.nd rfl (by first | exact .inl rfl | exact .inr rfl))) (fun _ _ _ _ _ => (pts_one (PW.pt (pw_or (pt_cmpR (op_eqD (u64 hr)) (pv 6) (pe_ix (IxR.or ix_list ix_tup) (pv 3) pe_int (fun _ _ => rfl)) (nomark _)) (pw_or1 (pt_cmpR (op_inD (u65 hr)) (pv 6) (pv 1) (by with_unfolding_all rfl))))))) (fun _ _ _ _ _ => (pv 6))) (pe_un un_neg pe_int) (fun _ _ => rfl)))
 (pss_cons (ps_set (i := 5) sc__law_saves.nd rfl (by first | exact .inl rfl | exact .inr rfl) (pe_lst pa_nil))
 (pss_cons (ps_for PassesOwn.never rfl (pi_range2 (by rfl) T.b_range (pa_cons pe_int (pa_cons (pe_op op_add (pe_callB call_len_seq (by rfl) T.b_len (by decide +kernel) (pa_cons (pv 0) pa_nil)) pe_int) pa_nil))) (pg_name (i := 6) sc__law_saves.nd rfl (by first | exact .inl rfl | exact .inr rfl))
 (pss_cons (ps_set (i := 7) sc__law_saves.nd rfl (by first | exact .inl rfl | exact .inr rfl) (pe_call (ok__law_way T) (hr.mono (by decide)) (by rfl) T.c__law_way.G T.c__law_way.F.kp T.c__law_way.B .nil passE0 (pa_cons (pv 0) (pa_cons (pv 6) pa_nil))))
 (pss_cons (ps_set (i := 8) sc__law_saves.nd rfl (by first | exact .inl rfl | exact .inr rfl) (pe_ix (IxR.or ix_list ix_tup) (pe_lc (own := [("spot", 11)]) rfl sc__law_saves.nd (pi_seq (pv 7)) (blkOk_by (N := ["feeder", "switches", "place", "way", "head", "parts", "one", "own", "cleared", "aside", "people", "spot"]) (sc := defScope s__law_saves) (own := [("spot", 11)]) (by decide +kernel)) (fun _ _ _ _ _ => (pg_name (i := 11) sc__law_saves.nd rfl (by first | exact .inl rfl | exact .inr rfl))) (fun _ _ _ _ _ => (pts_one (PW.pt (pw_or (pt_cmpR (op_eqD (u64 hr)) (pv 11) (pe_ix (IxR.or ix_list ix_tup) (pv 7) pe_int (fun _ _ => rfl)) (nomark _)) (pw_or1 (pt_cmpR (op_inD (u65 hr)) (pv 11) (pv 1) (by with_unfolding_all rfl))))))) (fun _ _ _ _ _ => (pv 11))) (pe_un un_neg pe_int) (fun _ _ => rfl)))
 (pss_one (ps_if (PW.pt (pw_and (pt_cmpR (op_inD (u65 hr)) (pv 2) (pv 7) (by with_unfolding_all rfl)) (pw_and1 (pt_cmpR (op_eqD (u64 hr)) (pv 8) (pv 4) (nomark _)))))
 (pss_cons (ps_setLc (own := [("spot", 11)]) (i := 9) rfl sc__law_saves.nd rfl rfl (sw_true rfl rfl rfl (by decide +kernel)) (pi_range2 (by rfl) T.b_range (pa_cons pe_int (pa_cons (pe_op op_add (pe_callB call_len_seq (by rfl) T.b_len (by decide +kernel) (pa_cons (pv 0) pa_nil)) pe_int) pa_nil))) (blkOk_by (N := ["feeder", "switches", "place", "way", "head", "parts", "one", "own", "cleared", "aside", "people", "spot"]) (sc := defScope s__law_saves) (own := [("spot", 11)]) (by decide +kernel)) (fun _ _ _ _ _ => (pg_name (i := 11) sc__law_saves.nd rfl (by first | exact .inl rfl | exact .inr rfl))) (fun _ _ _ _ _ => (pts_one (PW.pt (pw_and (pt_cmpR (op_inD (u65 hr)) (pv 4) (pe_call (ok__law_way T) (hr.mono (by decide)) (by rfl) T.c__law_way.G T.c__law_way.F.kp T.c__law_way.B .nil passE0 (pa_cons (pv 0) (pa_cons (pv 11) pa_nil))) (by with_unfolding_all rfl)) (pw_and1 (pt_cmpR (op_notInD (u65 hr)) (pv 2) (pe_call (ok__law_way T) (hr.mono (by decide)) (by rfl) T.c__law_way.G T.c__law_way.F.kp T.c__law_way.B .nil passE0 (pa_cons (pv 0) (pa_cons (pv 11) pa_nil))) (by with_unfolding_all rfl))))))) (fun _ _ _ _ _ => (pv 11)))
 (pss_cons (ps_set (i := 10) sc__law_saves.nd rfl (by first | exact .inl rfl | exact .inr rfl) (pe_callB (cr_sum rfl) (by rfl) T.b_sum (by decide +kernel) (pa_cons (pe_lc (own := [("spot", 11)]) rfl sc__law_saves.nd (pi_list (pv 9)) (blkOk_by (N := ["feeder", "switches", "place", "way", "head", "parts", "one", "own", "cleared", "aside", "people", "spot"]) (sc := defScope s__law_saves) (own := [("spot", 11)]) (by decide +kernel)) (fun _ _ _ _ _ => (pg_name (i := 11) sc__law_saves.nd rfl (by first | exact .inl rfl | exact .inr rfl))) (fun _ _ _ _ _ => pts_nil) (fun _ _ _ _ _ => (pe_ix (IxR.or ix_list ix_tup) (pe_ix (IxR.or ix_list ix_tup) (pv 0) (pe_op op_sub (pv 11) pe_int) (fun _ _ => rfl)) pe_int (fun _ _ => rfl)))) pa_nil)))
 (pss_one (ps_expr (pe_bm PySem.F.plainAttrs_list PySem.F.slot_list_append PySem.F.type_list_append mt_append (pv 5) (pa_cons (pe_call (ok__law_times T) (hr.mono (by decide)) (by rfl) T.c__law_times.G T.c__law_times.F.kp T.c__law_times.B .nil passE0 (pa_cons (pe_call (ok__law_times T) (hr.mono (by decide)) (by rfl) T.c__law_times.G T.c__law_times.F.kp T.c__law_times.B .nil passE0 (pa_cons (pe_ix (IxR.or ix_list ix_tup) (pe_ix (IxR.or ix_list ix_tup) (pv 0) (pe_op op_sub (pv 6) pe_int) (fun _ _ => rfl)) pe_int (fun _ _ => rfl)) (pa_cons (pe_ix (IxR.or ix_list ix_tup) (pe_ix (IxR.or ix_list ix_tup) (pv 0) (pe_op op_sub (pv 6) pe_int) (fun _ _ => rfl)) pe_int (fun _ _ => rfl)) pa_nil))) (pa_cons (pe_tup (pa_cons (pv 10) (pa_cons pe_int pa_nil))) pa_nil))) pa_nil))))))
 pss_nil)))))
 (pss_one (ps_ret (pe_call (ok__law_total T) (hr.mono (by decide)) (by rfl) T.c__law_total.G T.c__law_total.F.kp T.c__law_total.B .nil passE0 (pa_cons (pv 5) pa_nil))))))))),
 (sems_seq (sems_if (semt_or (semt_test (sem_op (s2_in .any) (sem_var .any 2) (sem_var .any 1))) (semt_test (sem_op (s2_eq .any) (sem_op (s2_ix .any) (sem_op (s2_ix .any) (sem_var .any 0) (sem_op (s2_int _ .any) (sem_var .any 2) (sem_int 1 .any))) (sem_int 0 .any)) (sem_int 0 .any))))
 (sems_ret (sem_tup .val (sema_cons (sem_int 0 .val) (sema_cons (sem_int 1 .val) (sema_nil .val)))))
 sems_nil)
 (sems_seq (sems_asg (sem_call .val (sema_cons (sem_var .val 0) (sema_cons (sem_var .val 2) (sema_nil .val)))) (semg_name 3))
 (sems_seq (sems_asg (sem_op (s2_ix .val) (SemO.e (sem_lc (SemI.weak (semi_seq (sem_var .val 3))) (semg_name 6) (by decide) (semt_or (semt_test (sem_op (s2_eq .any) (sem_var .any 6) (sem_op (s2_ix .any) (sem_var .any 3) (sem_int 0 .any)))) (semt_test (sem_op (s2_in .any) (sem_var .any 6) (sem_var .any 1)))) (sem_var .val 6))) (sem_neg .any (sem_int 1 .any))) (semg_name 4))
 (sems_seq (sems_asgO (sem_lst (sema_nil .val)))
 (sems_seq (sems_for (semi_range2 (sema_cons (sem_int 1 .any) (sema_cons (sem_op (s2_int _ .any) (sem_cb (sc_len .any) (sema_cons (sem_var .any 0) (sema_nil .any))) (sem_int 1 .any)) (sema_nil .any)))) (semg_name 6)
 (sems_seq (sems_asg (sem_call .val (sema_cons (sem_var .val 0) (sema_cons (sem_var .val 6) (sema_nil .val)))) (semg_name 7))
 (sems_seq (sems_asg (sem_op (s2_ix .val) (SemO.e (sem_lc (SemI.weak (semi_seq (sem_var .val 7))) (semg_name 11) (by decide) (semt_or (semt_test (sem_op (s2_eq .any) (sem_var .any 11) (sem_op (s2_ix .any) (sem_var .any 7) (sem_int 0 .any)))) (semt_test (sem_op (s2_in .any) (sem_var .any 11) (sem_var .any 1)))) (sem_var .val 11))) (sem_neg .any (sem_int 1 .any))) (semg_name 8))
 (sems_if (semt_and (semt_test (sem_op (s2_in .any) (sem_var .any 2) (sem_var .any 7))) (semt_test (sem_op (s2_eq .any) (sem_var .any 8) (sem_var .any 4))))
 (sems_seq (sems_asg (SemO.e (sem_lc (SemI.weak (semi_range2 (sema_cons (sem_int 1 .any) (sema_cons (sem_op (s2_int _ .any) (sem_cb (sc_len .any) (sema_cons (sem_var .any 0) (sema_nil .any))) (sem_int 1 .any)) (sema_nil .any))))) (semg_name 11) (by decide) (semt_and (semt_test (sem_op (s2_in .any) (sem_var .any 4) (sem_call .any (sema_cons (sem_var .val 0) (sema_cons (sem_var .val 11) (sema_nil .val)))))) (semt_test (sem_op (s2_notIn .any) (sem_var .any 2) (sem_call .any (sema_cons (sem_var .val 0) (sema_cons (sem_var .val 11) (sema_nil .val))))))) (sem_var .val 11))) (semg_name 9))
 (sems_seq (sems_asg (sem_cb (sc_sum .val) (sema_cons (SemO.e (sem_lc (SemI.weak (semi_list (sem_var .val 9))) (semg_name 11) (by decide) semt_yes (sem_op (s2_ix .val) (sem_op (s2_ix .val) (sem_var .val 0) (sem_op (s2_int _ .any) (sem_var .any 11) (sem_int 1 .any))) (sem_int 1 .any)))) (sema_nil .any))) (semg_name 10))
 (sems_app (sem_call .val (sema_cons (sem_call .val (sema_cons (sem_op (s2_ix .val) (sem_op (s2_ix .val) (sem_var .val 0) (sem_op (s2_int _ .any) (sem_var .any 6) (sem_int 1 .any))) (sem_int 2 .any)) (sema_cons (sem_op (s2_ix .val) (sem_op (s2_ix .val) (sem_var .val 0) (sem_op (s2_int _ .any) (sem_var .any 6) (sem_int 1 .any))) (sem_int 3 .any)) (sema_nil .val)))) (sema_cons (sem_tup .val (sema_cons (sem_var .val 10) (sema_cons (sem_int 1 .val) (sema_nil .val)))) (sema_nil .val)))))))
 sems_nil))))
 (sems_frz 5 (sems_ret (sem_call .val (sema_cons (sem_var .val 5) (sema_nil .val))))))))))⟩
theorem ok_law {l : PySem.W.OpenLaw} (T : Tb K mg) {fa : Addr} (base : Heap) (cdv : Value) (A : Around) (outer : List PySem.Env) (s : Shared) (H : Hp) (E : XK) (hgd : A.guards = some []) (hr : Room 5 (A.deeper (envOfC "law" (defScope s_law) s.heap.objs.size fa cdv))) :
    ∃ t, PSs (cxOf CX0 l.prog w K mg base ["script", "draws", "turn", "feeder", "able", "kept", "again", "switches", "before", "place", "told", "gain", "more", "rest", "one"] "law" (defScope s_law) fa cdv A outer s H E).nox (defBody s_law) t ∧ SemS K .val t g_law := ⟨_,
 (pss_cons (ps_set (i := 1) sc_law.nd rfl (by first | exact .inl rfl | exact .inr rfl) (pe_call (ok__law_draws T) (hr.mono (by decide)) (by rfl) T.c__law_draws.G T.c__law_draws.F.kp T.c__law_draws.B .nil passE0 (pa_cons (pv 0) pa_nil)))
 (pss_cons (ps_for PassesOwn.never rfl (pi_range1 (by rfl) T.b_range (pa_cons pe_int pa_nil)) (pg_name (i := 2) sc_law.nd rfl (by first | exact .inl rfl | exact .inr rfl))
 (pss_cons (ps_set (i := 3) sc_law.nd rfl (by first | exact .inl rfl | exact .inr rfl) (pe_call (ok__law_feeder T) (hr.mono (by decide)) (by rfl) T.c__law_feeder.G T.c__law_feeder.F.kp T.c__law_feeder.B .nil passE0 (pa_cons (pv 1) (pa_cons (pe_op op_add pe_int (pe_op op_mulW pe_int (pv 2))) (pa_cons pe_int pa_nil)))))
 (pss_cons (ps_setLc (own := [("place", 9)]) (i := 4) rfl sc_law.nd rfl rfl (sw_true rfl rfl rfl (by decide +kernel)) (pi_range2 (by rfl) T.b_range (pa_cons pe_int (pa_cons (pe_op op_add (pe_callB call_len_seq (by rfl) T.b_len (by decide +kernel) (pa_cons (pv 3) pa_nil)) pe_int) pa_nil))) (blkOk_by (N := ["script", "draws", "turn", "feeder", "able", "kept", "again", "switches", "before", "place", "told", "gain", "more", "rest", "one"]) (sc := defScope s_law) (own := [("place", 9)]) (by decide +kernel)) (fun _ _ _ _ _ => (pg_name (i := 9) sc_law.nd rfl (by first | exact .inl rfl | exact .inr rfl))) (fun _ _ _ _ _ => (pts_one (pt_cmpR (op_neD (u64 hr)) (pe_ix (IxR.or ix_list ix_tup) (pe_ix (IxR.or ix_list ix_tup) (pv 3) (pe_op op_sub (pv 9) pe_int) (fun _ _ => rfl)) pe_int (fun _ _ => rfl)) pe_int (nomark _)))) (fun _ _ _ _ _ => (pv 9)))
 (pss_cons (ps_set (i := 5) sc_law.nd rfl (by first | exact .inl rfl | exact .inr rfl) (pe_callB (call_repr hgd (u70 hr)) (by rfl) T.b_repr (by decide +kernel) (pa_cons (pv 3) pa_nil)))
 (pss_one (ps_for PassesOwn.never rfl (pi_range1 (by rfl) T.b_range (pa_cons pe_int pa_nil)) (pg_name (i := 6) sc_law.nd rfl (by first | exact .inl rfl | exact .inr rfl))
 (pss_cons (ps_setLc (own := [("place", 9)]) (i := 7) rfl sc_law.nd rfl rfl (sw_true rfl rfl rfl (by decide +kernel)) (pi_list (pv 4)) (blkOk_by (N := ["script", "draws", "turn", "feeder", "able", "kept", "again", "switches", "before", "place", "told", "gain", "more", "rest", "one"]) (sc := defScope s_law) (own := [("place", 9)]) (by decide +kernel)) (fun _ _ _ _ _ => (pg_name (i := 9) sc_law.nd rfl (by first | exact .inl rfl | exact .inr rfl))) (fun _ _ _ _ _ => (pts_one (pt_cmpR (op_eqD (u64 hr)) (pe_call (ok__law_mix T) (hr.mono (by decide)) (by rfl) T.c__law_mix.G T.c__law_mix.F.kp T.c__law_mix.B .nil passE0 (pa_cons (pv 1) (pa_cons (pe_op op_add (pe_op op_add (pe_op op_add pe_int (pe_op op_mulW pe_int (pv 2))) (pe_op op_mulW pe_int (pv 6))) (pv 9)) (pa_cons pe_int pa_nil)))) pe_int (nomark _)))) (fun _ _ _ _ _ => (pv 9)))
 (pss_cons (ps_set (i := 8) sc_law.nd rfl (by first | exact .inl rfl | exact .inr rfl) (pe_callB (call_repr hgd (u70 hr)) (by rfl) T.b_repr (by decide +kernel) (pa_cons (pv 7) pa_nil)))
 (pss_cons (ps_if (pt_cmpR op_ne (pe_callB (call_repr hgd (u70 hr)) (by rfl) T.b_repr (by decide +kernel) (pa_cons (pe_call (ok_lost_hours T) (hr.mono (by decide)) (by rfl) T.c_lost_hours.G T.c_lost_hours.F.kp T.c_lost_hours.B .nil passE0 (pa_cons (pv 3) (pa_cons (pv 7) pa_nil))) pa_nil)) (pe_callB (call_repr hgd (u70 hr)) (by rfl) T.b_repr (by decide +kernel) (pa_cons (pe_call (ok__law_lost T) (hr.mono (by decide)) (by rfl) T.c__law_lost.G T.c__law_lost.F.kp T.c__law_lost.B .nil passE0 (pa_cons (pv 3) (pa_cons (pv 7) pa_nil))) pa_nil)) (nomark _))
 (pss_one (ps_ret pe_bl))
 pss_nil)
 (pss_cons (ps_for PassesOwn.never rfl (pi_range2 (by rfl) T.b_range (pa_cons pe_int (pa_cons (pe_op op_add (pe_callB call_len_seq (by rfl) T.b_len (by decide +kernel) (pa_cons (pv 3) pa_nil)) pe_int) pa_nil))) (pg_name (i := 9) sc_law.nd rfl (by first | exact .inl rfl | exact .inr rfl))
 (pss_cons (ps_set (i := 10) sc_law.nd rfl (by first | exact .inl rfl | exact .inr rfl) (pe_call (ok_out_for T) (hr.mono (by decide)) (by rfl) T.c_out_for.G T.c_out_for.F.kp T.c_out_for.B .nil passE0 (pa_cons (pv 3) (pa_cons (pv 7) (pa_cons (pv 9) pa_nil)))))
 (pss_cons (ps_if (pt_cmpR op_ne (pe_callB (call_repr hgd (u70 hr)) (by rfl) T.b_repr (by decide +kernel) (pa_cons (pv 10) pa_nil)) (pe_callB (call_repr hgd (u70 hr)) (by rfl) T.b_repr (by decide +kernel) (pa_cons (pe_call (ok__law_out T) (hr.mono (by decide)) (by rfl) T.c__law_out.G T.c__law_out.F.kp T.c__law_out.B .nil passE0 (pa_cons (pv 3) (pa_cons (pv 7) (pa_cons (pv 9) pa_nil)))) pa_nil)) (nomark _))
 (pss_one (ps_ret pe_bl))
 pss_nil)
 (pss_cons (ps_expr (pe_bm PySem.F.plainAttrs_list PySem.F.slot_list_append PySem.F.type_list_append mt_append (pv 10) (pa_cons (pe_un un_neg pe_int) pa_nil)))
 (pss_cons (ps_set (i := 11) sc_law.nd rfl (by first | exact .inl rfl | exact .inr rfl) (pe_call (ok_saved T) (hr.mono (by decide)) (by rfl) T.c_saved.G T.c_saved.F.kp T.c_saved.B .nil passE0 (pa_cons (pv 3) (pa_cons (pv 7) (pa_cons (pv 9) pa_nil)))))
 (pss_cons (ps_if (PW.pt (pw_or (pt_cmpR op_ne (pe_callB (call_repr hgd (u70 hr)) (by rfl) T.b_repr (by decide +kernel) (pa_cons (pv 11) pa_nil)) (pe_callB (call_repr hgd (u70 hr)) (by rfl) T.b_repr (by decide +kernel) (pa_cons (pe_call (ok__law_saves T) (hr.mono (by decide)) (by rfl) T.c__law_saves.G T.c__law_saves.F.kp T.c__law_saves.B .nil passE0 (pa_cons (pv 3) (pa_cons (pv 7) (pa_cons (pv 9) pa_nil)))) pa_nil)) (nomark _)) (pw_or1 (pt_cmpR op_lt (pe_ix (IxR.or ix_list ix_tup) (pv 11) pe_int (fun _ _ => rfl)) pe_int (nomark _)))))
 (pss_one (ps_ret pe_bl))
 pss_nil)
 (pss_cons (ps_set (i := 12) sc_law.nd rfl (by first | exact .inl rfl | exact .inr rfl) (pe_callB (cr_sortedSet rfl) (by rfl) T.b_sorted (by decide +kernel) (pa_cons (pe_callTy (cr_setI rfl) (by rfl) T.b_set (by decide +kernel) (pa_cons (pe_op op_cat (pv 7) (pe_lc (own := [("one", 14)]) rfl sc_law.nd (pi_list (pv 4)) (blkOk_by (N := ["script", "draws", "turn", "feeder", "able", "kept", "again", "switches", "before", "place", "told", "gain", "more", "rest", "one"]) (sc := defScope s_law) (own := [("one", 14)]) (by decide +kernel)) (fun _ _ _ _ _ => (pg_name (i := 14) sc_law.nd rfl (by first | exact .inl rfl | exact .inr rfl))) (fun _ _ _ _ _ => (pts_one (PW.pt (pw_and (pt_cmpR (op_neD (u64 hr)) (pv 14) (pv 9) (nomark _)) (pw_and1 (pt_cmpR (op_eqD (u64 hr)) (pe_call (ok__law_mix T) (hr.mono (by decide)) (by rfl) T.c__law_mix.G T.c__law_mix.F.kp T.c__law_mix.B .nil passE0 (pa_cons (pv 1) (pa_cons (pe_op op_add (pe_op op_add pe_int (pe_op op_mulW pe_int (pv 6))) (pv 14)) (pa_cons pe_int pa_nil)))) pe_int (nomark _))))))) (fun _ _ _ _ _ => (pv 14)))) pa_nil)) pa_nil)))
 (pss_cons (ps_if (PW.pt (pw_and (pt_cmpR (op_notInD (u65 hr)) (pv 9) (pv 7) (by with_unfolding_all rfl)) (pw_and1 (pt_val (pe_call (ok__law_less T) (hr.mono (by decide)) (by rfl) T.c__law_less.G T.c__law_less.F.kp T.c__law_less.B .nil passE0 (pa_cons (pv 11) (pa_cons (pe_call (ok_saved T) (hr.mono (by decide)) (by rfl) T.c_saved.G T.c_saved.F.kp T.c_saved.B .nil passE0 (pa_cons (pv 3) (pa_cons (pv 12) (pa_cons (pv 9) pa_nil)))) pa_nil)))))))
 (pss_one (ps_ret pe_bl))
 pss_nil)
 (pss_one (ps_if (PW.pt (pw_and (pt_cmpR (op_inD (u65 hr)) (pv 9) (pv 4) (by with_unfolding_all rfl)) (pw_and1 (pt_cmpR (op_notInD (u65 hr)) (pv 9) (pv 7) (by with_unfolding_all rfl)))))
 (pss_cons (ps_set (i := 13) sc_law.nd rfl (by first | exact .inl rfl | exact .inr rfl) (pe_call (ok__law_lost T) (hr.mono (by decide)) (by rfl) T.c__law_lost.G T.c__law_lost.F.kp T.c__law_lost.B .nil passE0 (pa_cons (pv 3) (pa_cons (pe_callB cr_sortedI (by rfl) T.b_sorted (by decide +kernel) (pa_cons (pe_op op_cat (pv 7) (pe_lst (pa_cons (pv 9) pa_nil))) pa_nil)) pa_nil))))
 (pss_one (ps_if (pt_cmpR (op_neD (u64 hr)) (pe_call (ok__law_plus T) (hr.mono (by decide)) (by rfl) T.c__law_plus.G T.c__law_plus.F.kp T.c__law_plus.B .nil passE0 (pa_cons (pv 13) (pa_cons (pv 11) pa_nil))) (pe_call (ok__law_lost T) (hr.mono (by decide)) (by rfl) T.c__law_lost.G T.c__law_lost.F.kp T.c__law_lost.B .nil passE0 (pa_cons (pv 3) (pa_cons (pv 7) pa_nil))) (nomark _))
 (pss_one (ps_ret pe_bl))
 pss_nil)))
 pss_nil))))))))))
 (pss_one (ps_if (PW.pt (pw_or (pt_cmpR op_ne (pe_callB (call_repr hgd (u70 hr)) (by rfl) T.b_repr (by decide +kernel) (pa_cons (pv 7) pa_nil)) (pv 8) (nomark _)) (pw_or1 (pt_cmpR op_ne (pe_callB (call_repr hgd (u70 hr)) (by rfl) T.b_repr (by decide +kernel) (pa_cons (pv 3) pa_nil)) (pv 5) (nomark _)))))
 (pss_one (ps_ret pe_bl))
 pss_nil))))))))))))
 (pss_one (ps_ret pe_bl)))),
 (sems_seq (sems_asg (sem_call .val (sema_cons (sem_var .val 0) (sema_nil .val))) (semg_name 1))
 (sems_seq (sems_for (semi_range1 (sema_cons (sem_int 3 .any) (sema_nil .any))) (semg_name 2)
 (sems_seq (sems_asg (sem_call .val (sema_cons (sem_var .val 1) (sema_cons (sem_op (s2_int _ .val) (sem_int 10 .any) (sem_op (s2_intC cMul cMul_ok _ .any) (sem_int 60 .any) (sem_var .any 2))) (sema_cons (sem_int 10 .val) (sema_nil .val))))) (semg_name 3))
 (sems_seq (sems_asg (SemO.e (sem_lc (SemI.weak (semi_range2 (sema_cons (sem_int 1 .any) (sema_cons (sem_op (s2_int _ .any) (sem_cb (sc_len .any) (sema_cons (sem_var .any 3) (sema_nil .any))) (sem_int 1 .any)) (sema_nil .any))))) (semg_name 9) (by decide) (semt_test (sem_op (s2_ne .any) (sem_op (s2_ix .any) (sem_op (s2_ix .any) (sem_var .any 3) (sem_op (s2_int _ .any) (sem_var .any 9) (sem_int 1 .any))) (sem_int 0 .any)) (sem_int 0 .any))) (sem_var .val 9))) (semg_name 4))
 (sems_seq (sems_asg (sem_cb (sc_repr .val) (sema_cons (sem_var .any 3) (sema_nil .any))) (semg_name 5))
 (sems_for (semi_range1 (sema_cons (sem_int 4 .any) (sema_nil .any))) (semg_name 6)
 (sems_seq (sems_asg (SemO.e (sem_lc (SemI.weak (semi_list (sem_var .val 4))) (semg_name 9) (by decide) (semt_test (sem_op (s2_eq .any) (sem_call .any (sema_cons (sem_var .val 1) (sema_cons (sem_op (s2_int _ .val) (sem_op (s2_int _ .any) (sem_op (s2_int _ .any) (sem_int 200 .any) (sem_op (s2_intC cMul cMul_ok _ .any) (sem_int 50 .any) (sem_var .any 2))) (sem_op (s2_intC cMul cMul_ok _ .any) (sem_int 12 .any) (sem_var .any 6))) (sem_var .any 9)) (sema_cons (sem_int 3 .val) (sema_nil .val))))) (sem_int 0 .any))) (sem_var .val 9))) (semg_name 7))
 (sems_seq (sems_asg (sem_cb (sc_repr .val) (sema_cons (sem_var .any 7) (sema_nil .any))) (semg_name 8))
 (sems_seq (sems_if (semt_test (sem_op (s2_neS .any) (sem_cb (sc_repr .any) (sema_cons (sem_call .any (sema_cons (sem_var .val 3) (sema_cons (sem_var .val 7) (sema_nil .val)))) (sema_nil .any))) (sem_cb (sc_repr .any) (sema_cons (sem_call .any (sema_cons (sem_var .val 3) (sema_cons (sem_var .val 7) (sema_nil .val)))) (sema_nil .any)))))
 (sems_ret (sem_bl false .val))
 sems_nil)
 (sems_seq (sems_for (semi_range2 (sema_cons (sem_int 1 .any) (sema_cons (sem_op (s2_int _ .any) (sem_cb (sc_len .any) (sema_cons (sem_var .any 3) (sema_nil .any))) (sem_int 1 .any)) (sema_nil .any)))) (semg_name 9)
 (sems_seq (sems_asgO (sem_callO (sema_cons (sem_var .val 3) (sema_cons (sem_var .val 7) (sema_cons (sem_var .val 9) (sema_nil .val))))))
 (sems_seq (sems_if (semt_test (sem_op (s2_neS .any) (sem_cb (sc_repr .any) (sema_cons (sem_var .any 10) (sema_nil .any))) (sem_cb (sc_repr .any) (sema_cons (sem_call .any (sema_cons (sem_var .val 3) (sema_cons (sem_var .val 7) (sema_cons (sem_var .val 9) (sema_nil .val))))) (sema_nil .any)))))
 (sems_ret (sem_bl false .val))
 sems_nil)
 (sems_seq (sems_app (sem_neg .val (sem_int 1 .any)))
 (sems_seq (sems_asg (sem_call .val (sema_cons (sem_var .val 3) (sema_cons (sem_var .val 7) (sema_cons (sem_var .val 9) (sema_nil .val))))) (semg_name 11))
 (sems_seq (sems_if (semt_or (semt_test (sem_op (s2_neS .any) (sem_cb (sc_repr .any) (sema_cons (sem_var .any 11) (sema_nil .any))) (sem_cb (sc_repr .any) (sema_cons (sem_call .any (sema_cons (sem_var .val 3) (sema_cons (sem_var .val 7) (sema_cons (sem_var .val 9) (sema_nil .val))))) (sema_nil .any))))) (semt_test (sem_op (s2_cmp _ .any) (sem_op (s2_ix .any) (sem_var .any 11) (sem_int 0 .any)) (sem_int 0 .any))))
 (sems_ret (sem_bl false .val))
 sems_nil)
 (sems_seq (sems_asg (SemO.e (sem_sortset (sema_cons (SemO.e (sem_opO s2_cat (sem_var (.lst .val) 7) (SemO.e (sem_lc (SemI.weak (semi_list (sem_var .val 4))) (semg_name 14) (by decide) (semt_and (semt_test (sem_op (s2_ne .any) (sem_var .any 14) (sem_var .any 9))) (semt_test (sem_op (s2_eq .any) (sem_call .any (sema_cons (sem_var .val 1) (sema_cons (sem_op (s2_int _ .val) (sem_op (s2_int _ .any) (sem_int 360 .any) (sem_op (s2_intC cMul cMul_ok _ .any) (sem_int 12 .any) (sem_var .any 6))) (sem_var .any 14)) (sema_cons (sem_int 2 .val) (sema_nil .val))))) (sem_int 0 .any)))) (sem_var .val 14))))) (sema_nil .any)))) (semg_name 12))
 (sems_seq (sems_if (semt_and (semt_test (sem_op (s2_notIn .any) (sem_var .any 9) (sem_var .any 7))) (semt_b (sem_call .any (sema_cons (sem_var .val 11) (sema_cons (sem_call .val (sema_cons (sem_var .val 3) (sema_cons (sem_var .val 12) (sema_cons (sem_var .val 9) (sema_nil .val))))) (sema_nil .val))))))
 (sems_ret (sem_bl false .val))
 sems_nil)
 (sems_if (semt_and (semt_test (sem_op (s2_in .any) (sem_var .any 9) (sem_var .any 4))) (semt_test (sem_op (s2_notIn .any) (sem_var .any 9) (sem_var .any 7))))
 (sems_seq (sems_asg (sem_call .val (sema_cons (sem_var .val 3) (sema_cons (SemO.e (sem_cbO sc_sorted (sema_cons (SemO.e (sem_opO s2_cat (sem_var (.lst .val) 7) (SemO.e (sem_lst (sema_cons (sem_var .val 9) (sema_nil .val)))))) (sema_nil .any)))) (sema_nil .val)))) (semg_name 13))
 (sems_if (semt_test (sem_op (s2_ne .any) (sem_call .any (sema_cons (sem_var .val 13) (sema_cons (sem_var .val 11) (sema_nil .val)))) (sem_call .any (sema_cons (sem_var .val 3) (sema_cons (sem_var .val 7) (sema_nil .val))))))
 (sems_ret (sem_bl false .val))
 sems_nil))
 sems_nil)))))))))
 (sems_if (semt_or (semt_test (sem_op (s2_neS .any) (sem_cb (sc_repr .any) (sema_cons (sem_var .any 7) (sema_nil .any))) (sem_var .any 8))) (semt_test (sem_op (s2_neS .any) (sem_cb (sc_repr .any) (sema_cons (sem_var .any 3) (sema_nil .any))) (sem_var .any 5))))
 (sems_ret (sem_bl false .val))
 sems_nil))))))))))
 (sems_ret (sem_bl true .val))))⟩
end
open PySem.W in
theorem all_mk {l : OpenLaw} {w : World} {K : Frag} {h : Heap} {mg : Str → Option Value} {fa f1 f2 f3 f4 f5 f6 f7 f8 f9 f10 f11 f12 f13 f14 f15 f16 f17 f18 f19 f20 f21 f22 f23 f24 f25 f26 f27 f28 f29 f30 : Addr} (X : K.In h) (G : h.Ns mainGlobals mg) (hfa : mg "law" = some (.ref fa))
    {od1 od2 od3 od4 od5 od6 od7 od8 od9 od10 od11 od12 od13 od14 od15 od16 od17 od18 od19 od20 od21 od22 od23 od24 od25 od26 od27 od28 od29 od30 an1 an2 an3 an4 an5 an6 an7 an8 an9 an10 an11 an12 an13 an14 an15 an16 an17 an18 an19 an20 an21 an22 an23 an24 an25 an26 an27 an28 an29 an30 : Option Addr} {sl1 sl2 sl3 sl4 sl5 sl6 sl7 sl8 sl9 sl10 sl11 sl12 sl13 sl14 sl15 sl16 sl17 sl18 sl19 sl20 sl21 sl22 sl23 sl24 sl25 sl26 sl27 sl28 sl29 sl30 : Array (Option Value)} {oc1 oc2 oc3 oc4 oc5 oc6 oc7 oc8 oc9 oc10 oc11 oc12 oc13 oc14 oc15 oc16 oc17 oc18 oc19 oc20 oc21 oc22 oc23 oc24 oc25 oc26 oc27 oc28 oc29 oc30 kV1 kV2 kV3 kV4 kV5 kV6 kV7 kV8 kV9 kV10 kV11 kV12 kV13 kV14 kV15 kV16 kV17 kV18 kV19 kV20 kV21 kV22 kV23 kV24 kV25 kV26 kV27 kV28 kV29 kV30 dc1 dc2 dc3 dc4 dc5 dc6 dc7 dc8 dc9 dc10 dc11 dc12 dc13 dc14 dc15 dc16 dc17 dc18 dc19 dc20 dc21 dc22 dc23 dc24 dc25 dc26 dc27 dc28 dc29 dc30 pm1 pm2 pm3 pm4 pm5 pm6 pm7 pm8 pm9 pm10 pm11 pm12 pm13 pm14 pm15 pm16 pm17 pm18 pm19 pm20 pm21 pm22 pm23 pm24 pm25 pm26 pm27 pm28 pm29 pm30 cd1 cd2 cd3 cd4 cd5 cd6 cd7 cd8 cd9 cd10 cd11 cd12 cd13 cd14 cd15 cd16 cd17 cd18 cd19 cd20 cd21 cd22 cd23 cd24 cd25 cd26 cd27 cd28 cd29 cd30 ct1 ct2 ct3 ct4 ct5 ct6 ct7 ct8 ct9 ct10 ct11 ct12 ct13 ct14 ct15 ct16 ct17 ct18 ct19 ct20 ct21 ct22 ct23 ct24 ct25 ct26 ct27 ct28 ct29 ct30 : Value}
    (a1 : nsIn K mainGlobals "_law_draws" = some (some (.ref f1))) (l1 : K.lookup f1 = some ⟨oc1, od1, .func (fnOf "_law_draws" "_law_draws" (defArgs s__law_draws) (defBody s__law_draws) (defScope s__law_draws) .none kV1 dc1 pm1 an1 cd1 ct1), sl1⟩) (c1 : codeIn K cd1 "_law_draws" = true) (k1 : keepIn K (.ref f1) = true)
    (a2 : nsIn K mainGlobals "_law_low" = some (some (.ref f2))) (l2 : K.lookup f2 = some ⟨oc2, od2, .func (fnOf "_law_low" "_law_low" (defArgs s__law_low) (defBody s__law_low) (defScope s__law_low) .none kV2 dc2 pm2 an2 cd2 ct2), sl2⟩) (c2 : codeIn K cd2 "_law_low" = true) (k2 : keepIn K (.ref f2) = true)
    (a3 : nsIn K mainGlobals "_law_mix" = some (some (.ref f3))) (l3 : K.lookup f3 = some ⟨oc3, od3, .func (fnOf "_law_mix" "_law_mix" (defArgs s__law_mix) (defBody s__law_mix) (defScope s__law_mix) .none kV3 dc3 pm3 an3 cd3 ct3), sl3⟩) (c3 : codeIn K cd3 "_law_mix" = true) (k3 : keepIn K (.ref f3) = true)
    (a4 : nsIn K mainGlobals "_law_feeder" = some (some (.ref f4))) (l4 : K.lookup f4 = some ⟨oc4, od4, .func (fnOf "_law_feeder" "_law_feeder" (defArgs s__law_feeder) (defBody s__law_feeder) (defScope s__law_feeder) .none kV4 dc4 pm4 an4 cd4 ct4), sl4⟩) (c4 : codeIn K cd4 "_law_feeder" = true) (k4 : keepIn K (.ref f4) = true)
    (a5 : nsIn K mainGlobals "is_fraction" = some (some (.ref f5))) (l5 : K.lookup f5 = some ⟨oc5, od5, .func (fnOf "is_fraction" "is_fraction" (defArgs s_is_fraction) (defBody s_is_fraction) (defScope s_is_fraction) .none kV5 dc5 pm5 an5 cd5 ct5), sl5⟩) (c5 : codeIn K cd5 "is_fraction" = true) (k5 : keepIn K (.ref f5) = true)
    (a6 : nsIn K mainGlobals "is_section" = some (some (.ref f6))) (l6 : K.lookup f6 = some ⟨oc6, od6, .func (fnOf "is_section" "is_section" (defArgs s_is_section) (defBody s_is_section) (defScope s_is_section) .none kV6 dc6 pm6 an6 cd6 ct6), sl6⟩) (c6 : codeIn K cd6 "is_section" = true) (k6 : keepIn K (.ref f6) = true)
    (a7 : nsIn K mainGlobals "check_feeder" = some (some (.ref f7))) (l7 : K.lookup f7 = some ⟨oc7, od7, .func (fnOf "check_feeder" "check_feeder" (defArgs s_check_feeder) (defBody s_check_feeder) (defScope s_check_feeder) .none kV7 dc7 pm7 an7 cd7 ct7), sl7⟩) (c7 : codeIn K cd7 "check_feeder" = true) (k7 : keepIn K (.ref f7) = true)
    (a8 : nsIn K mainGlobals "check_switches" = some (some (.ref f8))) (l8 : K.lookup f8 = some ⟨oc8, od8, .func (fnOf "check_switches" "check_switches" (defArgs s_check_switches) (defBody s_check_switches) (defScope s_check_switches) .none kV8 dc8 pm8 an8 cd8 ct8), sl8⟩) (c8 : codeIn K cd8 "check_switches" = true) (k8 : keepIn K (.ref f8) = true)
    (a9 : nsIn K mainGlobals "check_place" = some (some (.ref f9))) (l9 : K.lookup f9 = some ⟨oc9, od9, .func (fnOf "check_place" "check_place" (defArgs s_check_place) (defBody s_check_place) (defScope s_check_place) .none kV9 dc9 pm9 an9 cd9 ct9), sl9⟩) (c9 : codeIn K cd9 "check_place" = true) (k9 : keepIn K (.ref f9) = true)
    (a10 : nsIn K mainGlobals "behind_of" = some (some (.ref f10))) (l10 : K.lookup f10 = some ⟨oc10, od10, .func (fnOf "behind_of" "behind_of" (defArgs s_behind_of) (defBody s_behind_of) (defScope s_behind_of) .none kV10 dc10 pm10 an10 cd10 ct10), sl10⟩) (c10 : codeIn K cd10 "behind_of" = true) (k10 : keepIn K (.ref f10) = true)
    (a11 : nsIn K mainGlobals "clearing" = some (some (.ref f11))) (l11 : K.lookup f11 = some ⟨oc11, od11, .func (fnOf "clearing" "clearing" (defArgs s_clearing) (defBody s_clearing) (defScope s_clearing) .none kV11 dc11 pm11 an11 cd11 ct11), sl11⟩) (c11 : codeIn K cd11 "clearing" = true) (k11 : keepIn K (.ref f11) = true)
    (a12 : nsIn K mainGlobals "out_for" = some (some (.ref f12))) (l12 : K.lookup f12 = some ⟨oc12, od12, .func (fnOf "out_for" "out_for" (defArgs s_out_for) (defBody s_out_for) (defScope s_out_for) .none kV12 dc12 pm12 an12 cd12 ct12), sl12⟩) (c12 : codeIn K cd12 "out_for" = true) (k12 : keepIn K (.ref f12) = true)
    (a13 : nsIn K mainGlobals "fraction" = some (some (.ref f13))) (l13 : K.lookup f13 = some ⟨oc13, od13, .func (fnOf "fraction" "fraction" (defArgs s_fraction) (defBody s_fraction) (defScope s_fraction) .none kV13 dc13 pm13 an13 cd13 ct13), sl13⟩) (c13 : codeIn K cd13 "fraction" = true) (k13 : keepIn K (.ref f13) = true)
    (a14 : nsIn K mainGlobals "minus" = some (some (.ref f14))) (l14 : K.lookup f14 = some ⟨oc14, od14, .func (fnOf "minus" "minus" (defArgs s_minus) (defBody s_minus) (defScope s_minus) .none kV14 dc14 pm14 an14 cd14 ct14), sl14⟩) (c14 : codeIn K cd14 "minus" = true) (k14 : keepIn K (.ref f14) = true)
    (a15 : nsIn K mainGlobals "people_of" = some (some (.ref f15))) (l15 : K.lookup f15 = some ⟨oc15, od15, .func (fnOf "people_of" "people_of" (defArgs s_people_of) (defBody s_people_of) (defScope s_people_of) .none kV15 dc15 pm15 an15 cd15 ct15), sl15⟩) (c15 : codeIn K cd15 "people_of" = true) (k15 : keepIn K (.ref f15) = true)
    (a16 : nsIn K mainGlobals "plus" = some (some (.ref f16))) (l16 : K.lookup f16 = some ⟨oc16, od16, .func (fnOf "plus" "plus" (defArgs s_plus) (defBody s_plus) (defScope s_plus) .none kV16 dc16 pm16 an16 cd16 ct16), sl16⟩) (c16 : codeIn K cd16 "plus" = true) (k16 : keepIn K (.ref f16) = true)
    (a17 : nsIn K mainGlobals "times" = some (some (.ref f17))) (l17 : K.lookup f17 = some ⟨oc17, od17, .func (fnOf "times" "times" (defArgs s_times) (defBody s_times) (defScope s_times) .none kV17 dc17 pm17 an17 cd17 ct17), sl17⟩) (c17 : codeIn K cd17 "times" = true) (k17 : keepIn K (.ref f17) = true)
    (a18 : nsIn K mainGlobals "lost_of" = some (some (.ref f18))) (l18 : K.lookup f18 = some ⟨oc18, od18, .func (fnOf "lost_of" "lost_of" (defArgs s_lost_of) (defBody s_lost_of) (defScope s_lost_of) .none kV18 dc18 pm18 an18 cd18 ct18), sl18⟩) (c18 : codeIn K cd18 "lost_of" = true) (k18 : keepIn K (.ref f18) = true)
    (a19 : nsIn K mainGlobals "saved_of" = some (some (.ref f19))) (l19 : K.lookup f19 = some ⟨oc19, od19, .func (fnOf "saved_of" "saved_of" (defArgs s_saved_of) (defBody s_saved_of) (defScope s_saved_of) .none kV19 dc19 pm19 an19 cd19 ct19), sl19⟩) (c19 : codeIn K cd19 "saved_of" = true) (k19 : keepIn K (.ref f19) = true)
    (a20 : nsIn K mainGlobals "saved" = some (some (.ref f20))) (l20 : K.lookup f20 = some ⟨oc20, od20, .func (fnOf "saved" "saved" (defArgs s_saved) (defBody s_saved) (defScope s_saved) .none kV20 dc20 pm20 an20 cd20 ct20), sl20⟩) (c20 : codeIn K cd20 "saved" = true) (k20 : keepIn K (.ref f20) = true)
    (a21 : nsIn K mainGlobals "lost_hours" = some (some (.ref f21))) (l21 : K.lookup f21 = some ⟨oc21, od21, .func (fnOf "lost_hours" "lost_hours" (defArgs s_lost_hours) (defBody s_lost_hours) (defScope s_lost_hours) .none kV21 dc21 pm21 an21 cd21 ct21), sl21⟩) (c21 : codeIn K cd21 "lost_hours" = true) (k21 : keepIn K (.ref f21) = true)
    (a22 : nsIn K mainGlobals "_law_plus" = some (some (.ref f22))) (l22 : K.lookup f22 = some ⟨oc22, od22, .func (fnOf "_law_plus" "_law_plus" (defArgs s__law_plus) (defBody s__law_plus) (defScope s__law_plus) .none kV22 dc22 pm22 an22 cd22 ct22), sl22⟩) (c22 : codeIn K cd22 "_law_plus" = true) (k22 : keepIn K (.ref f22) = true)
    (a23 : nsIn K mainGlobals "_law_total" = some (some (.ref f23))) (l23 : K.lookup f23 = some ⟨oc23, od23, .func (fnOf "_law_total" "_law_total" (defArgs s__law_total) (defBody s__law_total) (defScope s__law_total) .none kV23 dc23 pm23 an23 cd23 ct23), sl23⟩) (c23 : codeIn K cd23 "_law_total" = true) (k23 : keepIn K (.ref f23) = true)
    (a24 : nsIn K mainGlobals "_law_times" = some (some (.ref f24))) (l24 : K.lookup f24 = some ⟨oc24, od24, .func (fnOf "_law_times" "_law_times" (defArgs s__law_times) (defBody s__law_times) (defScope s__law_times) .none kV24 dc24 pm24 an24 cd24 ct24), sl24⟩) (c24 : codeIn K cd24 "_law_times" = true) (k24 : keepIn K (.ref f24) = true)
    (a25 : nsIn K mainGlobals "_law_way" = some (some (.ref f25))) (l25 : K.lookup f25 = some ⟨oc25, od25, .func (fnOf "_law_way" "_law_way" (defArgs s__law_way) (defBody s__law_way) (defScope s__law_way) .none kV25 dc25 pm25 an25 cd25 ct25), sl25⟩) (c25 : codeIn K cd25 "_law_way" = true) (k25 : keepIn K (.ref f25) = true)
    (a26 : nsIn K mainGlobals "_law_out" = some (some (.ref f26))) (l26 : K.lookup f26 = some ⟨oc26, od26, .func (fnOf "_law_out" "_law_out" (defArgs s__law_out) (defBody s__law_out) (defScope s__law_out) .none kV26 dc26 pm26 an26 cd26 ct26), sl26⟩) (c26 : codeIn K cd26 "_law_out" = true) (k26 : keepIn K (.ref f26) = true)
    (a27 : nsIn K mainGlobals "_law_lost" = some (some (.ref f27))) (l27 : K.lookup f27 = some ⟨oc27, od27, .func (fnOf "_law_lost" "_law_lost" (defArgs s__law_lost) (defBody s__law_lost) (defScope s__law_lost) .none kV27 dc27 pm27 an27 cd27 ct27), sl27⟩) (c27 : codeIn K cd27 "_law_lost" = true) (k27 : keepIn K (.ref f27) = true)
    (a28 : nsIn K mainGlobals "_law_less" = some (some (.ref f28))) (l28 : K.lookup f28 = some ⟨oc28, od28, .func (fnOf "_law_less" "_law_less" (defArgs s__law_less) (defBody s__law_less) (defScope s__law_less) .none kV28 dc28 pm28 an28 cd28 ct28), sl28⟩) (c28 : codeIn K cd28 "_law_less" = true) (k28 : keepIn K (.ref f28) = true)
    (a29 : nsIn K mainGlobals "_law_saves" = some (some (.ref f29))) (l29 : K.lookup f29 = some ⟨oc29, od29, .func (fnOf "_law_saves" "_law_saves" (defArgs s__law_saves) (defBody s__law_saves) (defScope s__law_saves) .none kV29 dc29 pm29 an29 cd29 ct29), sl29⟩) (c29 : codeIn K cd29 "_law_saves" = true) (k29 : keepIn K (.ref f29) = true)
    (a30 : nsIn K mainGlobals "law" = some (some (.ref f30))) (l30 : K.lookup f30 = some ⟨oc30, od30, .func (fnOf "law" "law" (defArgs s_law) (defBody s_law) (defScope s_law) .none kV30 dc30 pm30 an30 cd30 ct30), sl30⟩) (c30 : codeIn K cd30 "law" = true) (k30 : keepIn K (.ref f30) = true)
    (z0 : nsIn K mainGlobals "len" = some none)
    (z1 : nsIn K mainGlobals "min" = some none)
    (z2 : nsIn K mainGlobals "range" = some none)
    (z3 : nsIn K mainGlobals "abs" = some none)
    (z4 : nsIn K mainGlobals "int" = some none)
    (z5 : nsIn K mainGlobals "all" = some none)
    (z6 : nsIn K mainGlobals "enumerate" = some none)
    (z7 : nsIn K mainGlobals "sum" = some none)
    (z8 : nsIn K mainGlobals "sorted" = some none)
    (z9 : nsIn K mainGlobals "repr" = some none)
    (z10 : nsIn K mainGlobals "set" = some none)
    (zg : nsIn K mainGlobals "gcd" = some (some (.builtin "math.gcd")))
    {tk0 : Nat} (zk0 : nsIn K mainGlobals "MOST_PLACES" = some (some (.int 10 tk0)))
    : ∃ (fd : FuncData), Fun K "law" "law" s_law fa fd ∧ (∀ (s : Shared) (u : Value), BindsTo s fd ⟨[u], []⟩ [("script", u)]) ∧
      ∀ (base : Heap) (cdv : Value) (A : Around) (outer : List PySem.Env) (s : Shared) (H : Hp) (E : XK), K.In base → base.Ns mainGlobals mg → A.guards = some [] → Room 5 (A.deeper (envOfC "law" (defScope s_law) s.heap.objs.size fa cdv)) →
          ∃ t, PSs (cxOf CX0 l.prog w K mg base ["script", "draws", "turn", "feeder", "able", "kept", "again", "switches", "before", "place", "told", "gain", "more", "rest", "one"] "law" (defScope s_law) fa cdv A outer s H E).nox (defBody s_law) t ∧ SemS K .val t g_law := by
  have e := hfa.symm.trans (mg_of X G a30)
  cases e
  have T : Tb K mg := ⟨cal_mk X G bd__law_draws a1 l1 c1 k1, cal_mk X G bd__law_low a2 l2 c2 k2, cal_mk X G bd__law_mix a3 l3 c3 k3, cal_mk X G bd__law_feeder a4 l4 c4 k4, cal_mk X G bd_is_fraction a5 l5 c5 k5, cal_mk X G bd_is_section a6 l6 c6 k6, cal_mk X G bd_check_feeder a7 l7 c7 k7, cal_mk X G bd_check_switches a8 l8 c8 k8, cal_mk X G bd_check_place a9 l9 c9 k9, cal_mk X G bd_behind_of a10 l10 c10 k10, cal_mk X G bd_clearing a11 l11 c11 k11, cal_mk X G bd_out_for a12 l12 c12 k12, cal_mk X G bd_fraction a13 l13 c13 k13, cal_mk X G bd_minus a14 l14 c14 k14, cal_mk X G bd_people_of a15 l15 c15 k15, cal_mk X G bd_plus a16 l16 c16 k16, cal_mk X G bd_times a17 l17 c17 k17, cal_mk X G bd_lost_of a18 l18 c18 k18, cal_mk X G bd_saved_of a19 l19 c19 k19, cal_mk X G bd_saved a20 l20 c20 k20, cal_mk X G bd_lost_hours a21 l21 c21 k21, cal_mk X G bd__law_plus a22 l22 c22 k22, cal_mk X G bd__law_total a23 l23 c23 k23, cal_mk X G bd__law_times a24 l24 c24 k24, cal_mk X G bd__law_way a25 l25 c25 k25, cal_mk X G bd__law_out a26 l26 c26 k26, cal_mk X G bd__law_lost a27 l27 c27 k27, cal_mk X G bd__law_less a28 l28 c28 k28, cal_mk X G bd__law_saves a29 l29 c29 k29, PySem.W.mg_none_of X G z0, PySem.W.mg_none_of X G z1, PySem.W.mg_none_of X G z2, PySem.W.mg_none_of X G z3, PySem.W.mg_none_of X G z4, PySem.W.mg_none_of X G z5, PySem.W.mg_none_of X G z6, PySem.W.mg_none_of X G z7, PySem.W.mg_none_of X G z8, PySem.W.mg_none_of X G z9, PySem.W.mg_none_of X G z10, PySem.W.mg_of X G zg, ⟨_, PySem.W.mg_of X G zk0⟩⟩
  exact ⟨_, fun_mk (st := s_law) l30 c30 k30, fun s v => .of_eq rfl, fun base cdv A outer s H E _ _ hgd hr => ok_law T base cdv A outer s H E hgd hr⟩
end DL

open PySem PySem.W PyProof.Rows
set_option maxHeartbeats 0 in
theorem PySem.Challenge.cw_gridkept_k35_hours_lost_and_saved_holds : PySem.Challenge.rw_gridkept_k35_hours_lost_and_saved.Holds := by
  w_on; o_law; k_head; (case hw => w_witness2)
  k_fill
  refine DL.law_walk (l := PySem.Challenge.rw_gridkept_k35_hours_lost_and_saved) (n := 63) (k := 5) (x := "script") (N := ["script", "draws", "turn", "feeder", "able", "kept", "again", "switches", "before", "place", "told", "gain", "more", "rest", "one"]) rfl (by decide) rfl ⟨rfl, by decide, by decide⟩ DL.sc_law (fun w h Y => PySem.W.kIn_of Y) ?F DL.mirror_law
  case F =>
    intro w mg fa h KX G hmg
    refine' DL.all_mk KX G hmg ?a1 ?l1 ?c1 ?k1 ?a2 ?l2 ?c2 ?k2 ?a3 ?l3 ?c3 ?k3 ?a4 ?l4 ?c4 ?k4 ?a5 ?l5 ?c5 ?k5 ?a6 ?l6 ?c6 ?k6 ?a7 ?l7 ?c7 ?k7 ?a8 ?l8 ?c8 ?k8 ?a9 ?l9 ?c9 ?k9 ?a10 ?l10 ?c10 ?k10 ?a11 ?l11 ?c11 ?k11 ?a12 ?l12 ?c12 ?k12 ?a13 ?l13 ?c13 ?k13 ?a14 ?l14 ?c14 ?k14 ?a15 ?l15 ?c15 ?k15 ?a16 ?l16 ?c16 ?k16 ?a17 ?l17 ?c17 ?k17 ?a18 ?l18 ?c18 ?k18 ?a19 ?l19 ?c19 ?k19 ?a20 ?l20 ?c20 ?k20 ?a21 ?l21 ?c21 ?k21 ?a22 ?l22 ?c22 ?k22 ?a23 ?l23 ?c23 ?k23 ?a24 ?l24 ?c24 ?k24 ?a25 ?l25 ?c25 ?k25 ?a26 ?l26 ?c26 ?k26 ?a27 ?l27 ?c27 ?k27 ?a28 ?l28 ?c28 ?k28 ?a29 ?l29 ?c29 ?k29 ?a30 ?l30 ?c30 ?k30 ?z0 ?z1 ?z2 ?z3 ?z4 ?z5 ?z6 ?z7 ?z8 ?z9 ?z10 ?zg ?zk0
    (case a1 => k_is); (case l1 => k_is); (case c1 => k_is); (case k1 => k_is); (case a2 => k_is); (case l2 => k_is); (case c2 => k_is); (case k2 => k_is); (case a3 => k_is); (case l3 => k_is); (case c3 => k_is); (case k3 => k_is); (case a4 => k_is); (case l4 => k_is); (case c4 => k_is); (case k4 => k_is); (case a5 => k_is); (case l5 => k_is); (case c5 => k_is); (case k5 => k_is); (case a6 => k_is); (case l6 => k_is); (case c6 => k_is); (case k6 => k_is); (case a7 => k_is); (case l7 => k_is); (case c7 => k_is); (case k7 => k_is); (case a8 => k_is); (case l8 => k_is); (case c8 => k_is); (case k8 => k_is); (case a9 => k_is); (case l9 => k_is); (case c9 => k_is); (case k9 => k_is); (case a10 => k_is); (case l10 => k_is); (case c10 => k_is); (case k10 => k_is); (case a11 => k_is); (case l11 => k_is); (case c11 => k_is); (case k11 => k_is); (case a12 => k_is); (case l12 => k_is); (case c12 => k_is); (case k12 => k_is); (case a13 => k_is); (case l13 => k_is); (case c13 => k_is); (case k13 => k_is); (case a14 => k_is); (case l14 => k_is); (case c14 => k_is); (case k14 => k_is); (case a15 => k_is); (case l15 => k_is); (case c15 => k_is); (case k15 => k_is); (case a16 => k_is); (case l16 => k_is); (case c16 => k_is); (case k16 => k_is); (case a17 => k_is); (case l17 => k_is); (case c17 => k_is); (case k17 => k_is); (case a18 => k_is); (case l18 => k_is); (case c18 => k_is); (case k18 => k_is); (case a19 => k_is); (case l19 => k_is); (case c19 => k_is); (case k19 => k_is); (case a20 => k_is); (case l20 => k_is); (case c20 => k_is); (case k20 => k_is); (case a21 => k_is); (case l21 => k_is); (case c21 => k_is); (case k21 => k_is); (case a22 => k_is); (case l22 => k_is); (case c22 => k_is); (case k22 => k_is); (case a23 => k_is); (case l23 => k_is); (case c23 => k_is); (case k23 => k_is); (case a24 => k_is); (case l24 => k_is); (case c24 => k_is); (case k24 => k_is); (case a25 => k_is); (case l25 => k_is); (case c25 => k_is); (case k25 => k_is); (case a26 => k_is); (case l26 => k_is); (case c26 => k_is); (case k26 => k_is); (case a27 => k_is); (case l27 => k_is); (case c27 => k_is); (case k27 => k_is); (case a28 => k_is); (case l28 => k_is); (case c28 => k_is); (case k28 => k_is); (case a29 => k_is); (case l29 => k_is); (case c29 => k_is); (case k29 => k_is); (case a30 => k_is); (case l30 => k_is); (case c30 => k_is); (case k30 => k_is); (case z0 => k_is); (case z1 => k_is); (case z2 => k_is); (case z3 => k_is); (case z4 => k_is); (case z5 => k_is); (case z6 => k_is); (case z7 => k_is); (case z8 => k_is); (case z9 => k_is); (case z10 => k_is); (case zg => k_is); (case zk0 => k_is)
