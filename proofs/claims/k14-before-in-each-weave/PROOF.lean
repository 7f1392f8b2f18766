import PyProof.Rows.All
import Wide.All
import OpenK.AllK
import Wide.FinOn
import HandS.ForMost
import HandS.Exc
import HandS.TryOnly
import HandS.ExcOwn
import HandS.WordsExc
import HandS.TupAny
import HandS.Wide
import KE.KDictKeyed
import HandS.IsInst
import HandS.Deep
import KE.GoesMore
import KE.GoesEnum
import HandS.Iter
import HandS.Zip
import KE.SortData
import HandS.TupSets
import KE.KDictSum
import KE.KDictWalk
import HandS.Style
import HandS.TupMul
import KE.KDictDisplayH
import KE.KDictPairs
import PyProof.ReprRoads
import PySem.Challenge.RW_sidework_k14_whole_before_in_each_weave
set_option Elab.async false
set_option linter.all false
set_option maxRecDepth 100000
set_option maxHeartbeats 4000000
/-! Own layer: deep values (tuples told whole), a store of what can change, and readings over these. -/
namespace Sw
open PySem PySem.Spec PyProof.Rows L2

/-- a value: tuples whole, what can change by its address -/
inductive DV where
  | non
  | bl (b : Bool)
  | int (i : Int)
  | str (s : Str)
  | tup (ds : List DV)
  | ref (a : Addr)

/-- what stands at an address and can change (rol: a list that is only read) -/
inductive Ob where
  | lst (ds : List DV)
  | rol (ds : List DV)
  | rod (kvs : List (DV × DV))
  | ins (C : Addr) (fs : List (Str × DV))
  | dck (kvs : List (Key × DV))
  | dic (kvs : List (DV × DV))
  | exc (C : Addr) (d : Option Addr)
  | xdc (fs : List (Str × DV))

abbrev Sto := Addr → Option Ob
def put (st : Sto) (a : Addr) (o : Ob) : Sto := fun b => if b = a then some o else st b
theorem put_same {st : Sto} {a : Addr} {o : Ob} : put st a o a = some o := by unfold put; rw [if_pos rfl]
theorem put_ne {st : Sto} {a b : Addr} {o : Ob} (h : b ≠ a) : put st a o b = st b := by unfold put; rw [if_neg h]
theorem put_put {st : Sto} {a : Addr} {o u : Ob} : put (put st a o) a u = put st a u := by
  funext b; unfold put; split <;> rfl
/-- less is known -/
def Sub (st st' : Sto) : Prop := ∀ a o, st a = some o → st' a = some o
theorem Sub.refl (st : Sto) : Sub st st := fun _ _ h => h
theorem Sub.trans {a b c : Sto} (h : Sub a b) (h' : Sub b c) : Sub a c := fun x o q => h' x o (h x o q)
theorem Sub.new {st : Sto} {a : Addr} {o : Ob} (h : st a = none) : Sub st (put st a o) := fun b u q => by
  rw [put_ne (by rintro rfl; rw [h] at q; cases q)]; exact q

variable (P : Program) (w : World) (K : PySem.W.Frag)

mutual
inductive DVr (K : PySem.W.Frag) (H : Hp) : DV → V → Prop
  | non : DVr K H .non .non
  | bl (b : Bool) : DVr K H (.bl b) (.bl b)
  | int (i : Int) : DVr K H (.int i) (.int i)
  | str (x : Str) : DVr K H (.str x) (.str x)
  | tup {a : Addr} {xs : List V} {ds : List DV} : SqT K H a xs → DVs K H ds xs → DVr K H (.tup ds) (.ref a)
  | ref (a : Addr) : DVr K H (.ref a) (.ref a)
inductive DVs (K : PySem.W.Frag) (H : Hp) : List DV → List V → Prop
  | nil : DVs K H [] []
  | cons {d : DV} {v : V} {ds : List DV} {vs : List V} : DVr K H d v → DVs K H ds vs → DVs K H (d :: ds) (v :: vs)
end
/-- every tuple stays -/
def TupX (H H' : Hp) : Prop := ∀ a xs, SqT K H a xs → SqT K H' a xs
mutual
theorem DVr.mono {K : PySem.W.Frag} {H H' : Hp} (t : TupX K H H') : ∀ {d : DV} {v : V}, DVr K H d v → DVr K H' d v
  | _, _, .non => .non
  | _, _, .bl b => .bl b
  | _, _, .int i => .int i
  | _, _, .str x => .str x
  | _, _, .tup h hs => .tup (t _ _ h) (DVs.mono t hs)
  | _, _, .ref a => .ref a
theorem DVs.mono {K : PySem.W.Frag} {H H' : Hp} (t : TupX K H H') : ∀ {ds : List DV} {vs : List V}, DVs K H ds vs → DVs K H' ds vs
  | _, _, .nil => .nil
  | _, _, .cons h hs => .cons (DVr.mono t h) (DVs.mono t hs)
end
section
variable {K : PySem.W.Frag} {H : Hp}
theorem DVs.length {ds : List DV} {vs : List V} (h : DVs K H ds vs) : ds.length = vs.length := by
  induction ds generalizing vs with
  | nil => cases h; rfl
  | cons d ds ih => cases h with | cons a b => simp [ih b]
theorem DVs.append {ds es : List DV} {vs us : List V} (h : DVs K H ds vs) (h' : DVs K H es us) : DVs K H (ds ++ es) (vs ++ us) := by
  induction ds generalizing vs with
  | nil => cases h; exact h'
  | cons d ds ih => cases h with | cons a b => exact .cons a (ih b)
theorem DVs.drop {ds : List DV} {vs : List V} (n : Nat) (h : DVs K H ds vs) : DVs K H (ds.drop n) (vs.drop n) := by
  induction n generalizing ds vs with
  | zero => exact h
  | succ n ih => cases h with
    | nil => exact .nil
    | cons a b => exact ih b
theorem DVs.take {ds : List DV} {vs : List V} (n : Nat) (h : DVs K H ds vs) : DVs K H (ds.take n) (vs.take n) := by
  induction n generalizing ds vs with
  | zero => exact .nil
  | succ n ih => cases h with
    | nil => exact .nil
    | cons a b => exact .cons a (ih b)
theorem DVs.get {ds : List DV} {vs : List V} (h : DVs K H ds vs) {i : Nat} {d : DV} (e : ds[i]? = some d) : ∃ v, vs[i]? = some v ∧ DVr K H d v := by
  induction i generalizing ds vs with
  | zero => cases h with
    | nil => simp at e
    | cons a b => simp at e; subst e; exact ⟨_, rfl, a⟩
  | succ n ih => cases h with
    | nil => simp at e
    | cons a b => simp at e; obtain ⟨v, e1, e2⟩ := ih b e; exact ⟨v, by simpa using e1, e2⟩
theorem DVs.getV {ds : List DV} {vs : List V} (h : DVs K H ds vs) {i : Nat} {v : V} (e : vs[i]? = some v) : ∃ d, ds[i]? = some d ∧ DVr K H d v := by
  induction i generalizing ds vs with
  | zero => cases h with
    | nil => simp at e
    | cons a b => simp at e; subst e; exact ⟨_, rfl, a⟩
  | succ n ih => cases h with
    | nil => simp at e
    | cons a b => simp at e; obtain ⟨v, e1, e2⟩ := ih b e; exact ⟨v, by simpa using e1, e2⟩
theorem DVs.set {ds : List DV} {vs : List V} (h : DVs K H ds vs) {i : Nat} {d : DV} {v : V} (e : DVr K H d v) : DVs K H (ds.set i d) (vs.set i v) := by
  induction i generalizing ds vs with
  | zero => cases h with
    | nil => exact .nil
    | cons a b => exact .cons e b
  | succ n ih => cases h with
    | nil => exact .nil
    | cons a b => exact .cons a (ih b)
theorem DVs.reverse {ds : List DV} {vs : List V} (h : DVs K H ds vs) : DVs K H ds.reverse vs.reverse := by
  induction ds generalizing vs with
  | nil => cases h; exact .nil
  | cons d ds ih => cases h with | cons a b => rw [List.reverse_cons, List.reverse_cons]; exact (ih b).append (.cons a .nil)
theorem DVs.dropLast {ds : List DV} {vs : List V} (h : DVs K H ds vs) : DVs K H ds.dropLast vs.dropLast := by
  rw [List.dropLast_eq_take, List.dropLast_eq_take, ← h.length]; exact h.take _
theorem DVs.ints {ns : List Int} {vs : List V} (h : DVs K H (ns.map DV.int) vs) : vs = ns.map V.int := by
  induction ns generalizing vs with
  | nil => cases h; rfl
  | cons n ns ih => cases h with | cons a b => cases a; rw [ih b]; rfl
theorem DVs.of_ints {ns : List Int} : DVs K H (ns.map DV.int) (ns.map V.int) := by
  induction ns with
  | nil => exact .nil
  | cons n ns ih => exact .cons (.int n) ih
end

/-! the key that a value is -/
mutual
def keyOf : DV → Option NestedKey
  | .non => some .none
  | .bl b => some (.num (if b then 1 else 0))
  | .int i => some (.num i)
  | .str x => some (.text x)
  | .tup ds => (keysOf ds).map .tup
  | .ref _ => none
def keysOf : List DV → Option (List NestedKey)
  | [] => some []
  | d :: ds => match keyOf d, keysOf ds with
    | some k, some ks => some (k :: ks)
    | _, _ => none
end
/-- a dict with tuple keys, told by its own object: key, its tuple's place, value -/
def NDk (P : Program) (w : World) (a : Addr) (ks : List (NestedKey × Addr × V)) (h : Heap) : Prop :=
  ∃ xs : List (NestedKey × Addr × Value), Paired (fun (p : NestedKey × Addr × V) (q : NestedKey × Addr × Value) => p.1 = q.1 ∧ p.2.1 = q.2.1 ∧ RelV p.2.2 q.2.2) ks xs ∧
    ∃ o es ep, h.get? a = some o ∧ o.ExactDict ∧ o.data = .dict es ep ∧ es.toList = xs.map (entryOfKey (nestedKind P w)) ∧ (xs.map (·.1)).Nodup

/-- an exception's object: its class, its dict -/
def ExcAt (a C : Addr) (d : Option Addr) : Heap → Prop := fun h => ∃ o vs, h.get? a = some o ∧ o.cls = .ref C ∧ o.dict = d ∧ o.data = .fields vs

def ObR (H : Hp) (a : Addr) : Ob → Prop
  | .exc C d => H a = some (.ext (ExcAt a C d))
  | .xdc fs => ∃ fs', H a = some (.xd fs') ∧ Paired (fun (p : Str × DV) (q : Str × V) => p.1 = q.1 ∧ DVr K H p.2 q.2) fs fs'
  | .lst ds => ∃ xs, H a = some (.lst xs) ∧ DVs K H ds xs
  | .rol ds => ∃ xs, Rd H a (.lst xs) ∧ DVs K H ds xs
  | .ins C fs => ∃ dx fs', H a = some (.ins C dx fs') ∧ Paired (fun (p : Str × DV) (q : Str × V) => p.1 = q.1 ∧ DVr K H p.2 q.2) fs fs'
  | .dck kvs => ∃ kvs', H a = some (.dK kvs') ∧ Paired (fun (p : Key × DV) (q : Key × V) => p.1 = q.1 ∧ DVr K H p.2 q.2) kvs kvs'
  | .rod kvs => (a == sysModules) = false ∧ ∃ ks, (∃ o, H a = some (.frz o (.ext (NDk P w a ks)))) ∧
      Paired (fun (p : DV × DV) (q : NestedKey × Addr × V) => keyOf p.1 = some q.1 ∧ q.1.depth ≤ 8 ∧ DVr K H p.1 (.ref q.2.1) ∧ DVr K H p.2 q.2.2) kvs ks
  | .dic kvs => (a == sysModules) = false ∧ ∃ ks, H a = some (.ext (NDk P w a ks)) ∧
      Paired (fun (p : DV × DV) (q : NestedKey × Addr × V) => keyOf p.1 = some q.1 ∧ q.1.depth ≤ 8 ∧ DVr K H p.1 (.ref q.2.1) ∧ DVr K H p.2 q.2.2) kvs ks
/-- the store is true of the heap -/
def Agr (st : Sto) (H : Hp) : Prop := ∀ a o, st a = some o → ObR P w K H a o
theorem Agr.sub {P : Program} {w : World} {K : PySem.W.Frag} {st st' : Sto} {H : Hp} (g : Agr P w K st' H) (s : Sub st st') : Agr P w K st H := fun a o h => g a o (s a o h)
theorem ObR.mono {P : Program} {w : World} {K : PySem.W.Frag} {H H' : Hp} {a : Addr} {o : Ob} (r : ObR P w K H a o) (t : TupX K H H') (e : H' a = H a) : ObR P w K H' a o := by
  cases o with
  | exc C d => exact e.trans r
  | xdc fs => obtain ⟨fs', h, hs⟩ := r; exact ⟨fs', by rw [e]; exact h, Paired.mapP hs fun p q z => ⟨z.1, z.2.mono t⟩⟩
  | lst ds => obtain ⟨xs, h, hs⟩ := r; exact ⟨xs, by rw [e]; exact h, hs.mono t⟩
  | rol ds =>
    obtain ⟨xs, h, hs⟩ := r
    refine ⟨xs, ?_, hs.mono t⟩
    rcases h with h | ⟨o, h⟩
    · exact .inl (by rw [e]; exact h)
    · exact .inr ⟨o, by rw [e]; exact h⟩
  | ins C fs => obtain ⟨dx, fs', h, hs⟩ := r; exact ⟨dx, fs', by rw [e]; exact h, Paired.mapP hs fun p q z => ⟨z.1, z.2.mono t⟩⟩
  | dck kvs => obtain ⟨kvs', h, hs⟩ := r; exact ⟨kvs', by rw [e]; exact h, Paired.mapP hs fun p q z => ⟨z.1, z.2.mono t⟩⟩
  | dic kvs => obtain ⟨hy, ks, h, hs⟩ := r; exact ⟨hy, ks, by rw [e]; exact h, Paired.mapP hs fun p q z => ⟨z.1, z.2.1, z.2.2.1.mono t, z.2.2.2.mono t⟩⟩
  | rod kvs =>
    obtain ⟨hy, ks, h, hs⟩ := r
    refine ⟨hy, ks, ?_, Paired.mapP hs fun p q z => ⟨z.1, z.2.1, z.2.2.1.mono t, z.2.2.2.mono t⟩⟩
    obtain ⟨o, h⟩ := h
    exact ⟨o, by rw [e]; exact h⟩
/-- what is tracked in the store is no tuple -/
theorem Agr.not_tup {P : Program} {w : World} {K : PySem.W.Frag} {st : Sto} {H : Hp} (g : Agr P w K st H) {a : Addr} {xs : List V} (h : Rd H a (.tup xs)) : st a = none := by
  cases q : st a with
  | none => rfl
  | some o =>
    exfalso
    have r := g a o q
    cases o with
    | exc C d => have e : H a = _ := r; rcases h with h | ⟨o, h⟩ <;> · rw [e] at h; cases h
    | xdc fs => obtain ⟨_, e, _⟩ := r; rcases h with h | ⟨o, h⟩ <;> · rw [e] at h; cases h
    | lst ds => obtain ⟨ys, e, _⟩ := r; rcases h with h | ⟨o, h⟩ <;> · rw [e] at h; cases h
    | rol ds =>
      obtain ⟨ys, e, _⟩ := r
      rcases e with e | ⟨o', e⟩ <;> rcases h with h | ⟨o, h⟩ <;> · rw [e] at h; cases h
    | ins C fs => obtain ⟨_, _, e, _⟩ := r; rcases h with h | ⟨o, h⟩ <;> · rw [e] at h; cases h
    | dck kvs => obtain ⟨_, e, _⟩ := r; rcases h with h | ⟨o, h⟩ <;> · rw [e] at h; cases h
    | dic kvs => obtain ⟨_, _, e, _⟩ := r; rcases h with h | ⟨o, h⟩ <;> · rw [e] at h; cases h
    | rod kvs =>
      obtain ⟨_, _, ⟨o', e⟩, _⟩ := r
      rcases h with h | ⟨o, h⟩ <;> · rw [e] at h; cases h
theorem Agr.some_of {P : Program} {w : World} {K : PySem.W.Frag} {st : Sto} {H : Hp} (g : Agr P w K st H) {a : Addr} {o : Ob} (h : st a = some o) : ∃ u, H a = some u := by
  have r := g a o h
  cases o with
  | exc C d => exact ⟨_, r⟩
  | xdc fs => obtain ⟨_, e, _⟩ := r; exact ⟨_, e⟩
  | lst ds => obtain ⟨ys, e, _⟩ := r; exact ⟨_, e⟩
  | rol ds => obtain ⟨ys, e | ⟨o', e⟩, _⟩ := r <;> exact ⟨_, e⟩
  | ins C fs => obtain ⟨_, _, e, _⟩ := r; exact ⟨_, e⟩
  | dck kvs => obtain ⟨_, e, _⟩ := r; exact ⟨_, e⟩
  | dic kvs => obtain ⟨_, _, e, _⟩ := r; exact ⟨_, e⟩
  | rod kvs => obtain ⟨_, _, ⟨o', e⟩, _⟩ := r; exact ⟨_, e⟩
theorem Agr.free {P : Program} {w : World} {K : PySem.W.Frag} {st : Sto} {H : Hp} (g : Agr P w K st H) {a : Addr} (h : H a = none) : st a = none := by
  cases q : st a with
  | none => rfl
  | some o => obtain ⟨u, e⟩ := g.some_of q; rw [h] at e; cases e

def isRo : Ob → Bool
  | .rol _ => true
  | .rod _ => true
  | _ => false
/-- from one state to a later one: what the store does not hold is left alone, what it holds to be read only too -/
structure Stp (st : Sto) (H : Hp) (st' : Sto) (H' : Hp) : Prop where
  keep : ∀ a o, H a = some o → st a = none → H' a = some o
  dom : ∀ a o, H a = some o → st a = none → st' a = none
  ro : ∀ a ds o, H a = some o → st a = some ds → isRo ds = true → H' a = some o ∧ ∀ u, st' a = some u → u = ds
  all : ∀ a, H' a = none → H a = none
theorem Stp.refl (st : Sto) (H : Hp) : Stp st H st H := ⟨fun _ _ h _ => h, fun _ _ _ h => h, fun _ _ _ h q _ => ⟨h, fun u z => by rw [q] at z; exact (Option.some.inj z).symm⟩, fun _ h => h⟩
theorem Stp.trans {st st1 st2 : Sto} {H H1 H2 : Hp} (a : Stp st H st1 H1) (b : Stp st1 H1 st2 H2) : Stp st H st2 H2 :=
  ⟨fun x o h n => b.keep x o (a.keep x o h n) (a.dom x o h n), fun x o h n => b.dom x o (a.keep x o h n) (a.dom x o h n), fun x ds o h q i => by
    obtain ⟨h1, q1⟩ := a.ro x ds o h q i
    cases z : st1 x with
    | none => exact ⟨b.keep x o h1 z, fun u e => by rw [b.dom x o h1 z] at e; cases e⟩
    | some v =>
      have e := q1 v z
      subst e
      exact b.ro x v o h1 z i, fun x h => a.all x (b.all x h)⟩
theorem Stp.sub {st st1 st2 : Sto} {H H1 : Hp} (a : Stp st H st1 H1) (b : Sub st2 st1) : Stp st H st2 H1 :=
  ⟨a.keep, fun x o h n => (by
    have e := a.dom x o h n
    cases q : st2 x with
    | none => rfl
    | some u => rw [b x u q] at e; cases e), fun x ds o h q i => ⟨(a.ro x ds o h q i).1, fun u e => (a.ro x ds o h q i).2 u (b x u e)⟩, a.all⟩
theorem Stp.tup {P : Program} {w : World} {K : PySem.W.Frag} {st st' : Sto} {H H' : Hp} (g : Agr P w K st H) (s : Stp st H st' H') : TupX K H H' := fun a xs h => by
  rcases h with h | h
  · have n := g.not_tup h
    rcases h with h | ⟨o, h⟩
    · exact .inl (.inl (s.keep _ _ h n))
    · exact .inl (.inr ⟨o, s.keep _ _ h n⟩)
  · exact .inr h
theorem upd_gone {H : Hp} {p a : Addr} {o : HO} (h : upd H p o a = none) : H a = none := by
  by_cases e : a = p
  · rw [e, upd_same] at h; cases h
  · rw [upd_ne e] at h; exact h
theorem tupX_new {K : PySem.W.Frag} {H : Hp} {p : Addr} {o : HO} (h : H p = none) : TupX K H (upd H p o) := fun a xs q => by
  rcases q with (q | ⟨u, q⟩) | q
  · exact .inl (.inl (by rw [upd_ne (ne_of_none q h)]; exact q))
  · exact .inl (.inr ⟨u, by rw [upd_ne (ne_of_none q h)]; exact q⟩)
  · exact .inr q
theorem tupX_upd {K : PySem.W.Frag} {H : Hp} {p : Addr} {o : HO} (h : ∀ xs, ¬ Rd H p (.tup xs)) : TupX K H (upd H p o) := fun a xs q => by
  rcases q with q | q
  · have n : a ≠ p := by rintro rfl; exact h xs q
    rcases q with q | ⟨u, q⟩
    · exact .inl (.inl (by rw [upd_ne n]; exact q))
    · exact .inl (.inr ⟨u, by rw [upd_ne n]; exact q⟩)
  · exact .inr q
/-- a new object that the store does not hold -/
theorem Agr.new0 {P : Program} {w : World} {K : PySem.W.Frag} {st : Sto} {H : Hp} (g : Agr P w K st H) {p : Addr} {o : HO} (h : H p = none) : Agr P w K st (upd H p o) := fun a u q => by
  have n : a ≠ p := by rintro rfl; rw [g.free h] at q; cases q
  exact (g a u q).mono (tupX_new h) (upd_ne n)
theorem Stp.new0 {st : Sto} {H : Hp} {p : Addr} {o : HO} (h : H p = none) : Stp st H st (upd H p o) :=
  ⟨fun a u q _ => by rw [upd_ne (ne_of_none q h)]; exact q, fun _ _ _ n => n, fun a ds u q n _ => ⟨by rw [upd_ne (ne_of_none q h)]; exact q, fun v z => by rw [n] at z; exact (Option.some.inj z).symm⟩, fun _ z => upd_gone z⟩
/-- a new object of the store -/
theorem Agr.new {P : Program} {w : World} {K : PySem.W.Frag} {st : Sto} {H : Hp} (g : Agr P w K st H) {p : Addr} {o : HO} {u : Ob} (h : H p = none) (r : ObR P w K (upd H p o) p u) : Agr P w K (put st p u) (upd H p o) := fun a x q => by
  by_cases e : a = p
  · subst e; rw [put_same] at q; cases q; exact r
  · rw [put_ne e] at q; exact (g.new0 h) a x q
theorem Stp.new {st : Sto} {H : Hp} {p : Addr} {o : HO} {u : Ob} (h : H p = none) : Stp st H (put st p u) (upd H p o) :=
  ⟨fun a x q _ => by rw [upd_ne (ne_of_none q h)]; exact q, fun a x q n => by rw [put_ne (ne_of_none q h)]; exact n, fun a ds x q n _ => ⟨by rw [upd_ne (ne_of_none q h)]; exact q, fun v z => by rw [put_ne (ne_of_none q h), n] at z; exact (Option.some.inj z).symm⟩, fun _ z => upd_gone z⟩
/-- an object of the store is changed -/
theorem Agr.set {P : Program} {w : World} {K : PySem.W.Frag} {st : Sto} {H : Hp} (g : Agr P w K st H) {p : Addr} {o : HO} {u u0 : Ob} (h : st p = some u0) (r : TupX K H (upd H p o) → ObR P w K (upd H p o) p u) : Agr P w K (put st p u) (upd H p o) := by
  have t : TupX K H (upd H p o) := tupX_upd fun xs z => by rw [g.not_tup z] at h; cases h
  intro a x q
  by_cases e : a = p
  · subst e; rw [put_same] at q; cases q; exact r t
  · rw [put_ne e] at q; exact (g a x q).mono t (upd_ne e)
theorem Stp.set {st : Sto} {H : Hp} {p : Addr} {o : HO} {u u0 : Ob} (h : st p = some u0) (hr : isRo u0 = false) : Stp st H (put st p u) (upd H p o) :=
  ⟨fun a x q n => by rw [upd_ne (by rintro rfl; rw [h] at n; cases n)]; exact q, fun a x q n => by rw [put_ne (by rintro rfl; rw [h] at n; cases n)]; exact n, fun a ds x q n i => by
    have e : a ≠ p := by rintro rfl; rw [h] at n; cases n; rw [hr] at i; cases i
    exact ⟨by rw [upd_ne e]; exact q, fun v z => by rw [put_ne e, n] at z; exact (Option.some.inj z).symm⟩, fun _ z => upd_gone z⟩
end Sw

namespace Sw
open PySem PySem.Spec PyProof.Rows L2

/-! ### judgements -/
abbrev Rho := List (Option DV)
def RhoR (K : PySem.W.Frag) (H : Hp) (ρ : Rho) (σ : L2.St) : Prop := ρ.length = σ.length ∧ ∀ (i : Nat) (d : DV), ρ[i]? = some (some d) → ∃ v, σ[i]? = some (some v) ∧ DVr K H d v
theorem RhoR.mono {K : PySem.W.Frag} {H H' : Hp} {ρ : Rho} {σ : L2.St} (r : RhoR K H ρ σ) (t : TupX K H H') : RhoR K H' ρ σ :=
  ⟨r.1, fun i d e => let ⟨v, a, b⟩ := r.2 i d e; ⟨v, a, b.mono t⟩⟩
theorem RhoR.set {K : PySem.W.Frag} {H : Hp} {ρ : Rho} {σ : L2.St} (r : RhoR K H ρ σ) {j : Nat} {d : DV} {v : V} (h : DVr K H d v) : RhoR K H (ρ.set j (some d)) (σ.set j (some v)) := by
  refine ⟨by simpa using r.1, fun i e q => ?_⟩
  by_cases hj : j = i
  · subst hj
    by_cases hl : j < ρ.length
    · rw [List.getElem?_set_self hl] at q
      cases q
      exact ⟨v, by rw [List.getElem?_set_self (by rw [← r.1]; exact hl)], h⟩
    · rw [List.getElem?_eq_none (by simp; omega)] at q; cases q
  · rw [List.getElem?_set_ne hj] at q
    obtain ⟨u, a, b⟩ := r.2 i e q
    exact ⟨u, by rw [List.getElem?_set_ne hj]; exact a, b⟩
/-- what is wanted of an exception: its class, its fields, the store -/
abbrev XD := Addr → List (Str × DV) → Sto → Prop
def FldX (K : PySem.W.Frag) (H H' : Hp) (st : Sto) (o : Option Addr) (fs : List (Str × DV)) : Prop :=
  (fs = [] ∧ o = none) ∨ ∃ d fs', o = some d ∧ fs ≠ [] ∧ H d = none ∧ st d = none ∧ H' d = some (.xd fs') ∧ Paired (fun (p : Str × DV) (q : Str × V) => p.1 = q.1 ∧ DVr K H' p.2 q.2) fs fs'
theorem FldX.back {K : PySem.W.Frag} {H H1 H' : Hp} {st : Sto} {o : Option Addr} {fs : List (Str × DV)} (f : FldX K H1 H' st o fs) (h : ∀ a, H1 a = none → H a = none) : FldX K H H' st o fs :=
  f.elim .inl fun ⟨d, fs', a, z, b, c⟩ => .inr ⟨d, fs', a, z, h d b, c⟩
def XR (P : Program) (w : World) (K : PySem.W.Frag) (st : Sto) (H : Hp) (W : XD) (E : XK) : Prop :=
  ∀ C fs st' H' o, W C fs st' → Agr P w K st' H' → Stp st H st' H' → FldX K H H' st' o fs → E (.ref C) o H'
structure Sim (X : Cx) (E : XK) (W : XD) (ρ : Rho) (σ : L2.St) (st : Sto) (H : Hp) : Prop where
  r : RhoR X.K H ρ σ
  g : Agr X.prog X.w X.K st H
  x : XR X.prog X.w X.K st H W E
section
variable {X : Cx} {E : XK} {W : XD} {ρ : Rho} {σ : L2.St} {st st' : Sto} {H H' : Hp}
theorem Sim.step (S : Sim X E W ρ σ st H) (g : Agr X.prog X.w X.K st' H') (s : Stp st H st' H') : Sim X E W ρ σ st' H' :=
  ⟨S.r.mono (s.tup S.g), g, fun C fs st2 H2 o a b c d => S.x C fs st2 H2 o a b (s.trans c) (d.back s.all)⟩
theorem Sim.set (S : Sim X E W ρ σ st H) {j : Nat} {d : DV} {v : V} (h : DVr X.K H d v) : Sim X E W (ρ.set j (some d)) (σ.set j (some v)) st H := ⟨S.r.set h, S.g, S.x⟩
end
/-- the way on -/
def Cn (X : Cx) (st : Sto) (H : Hp) (Qd : DV → Sto → Prop) (Q : VK) : Prop := ∀ d st' v H', Qd d st' → DVr X.K H' d v → Agr X.prog X.w X.K st' H' → Stp st H st' H' → Q v H'
def CnT (X : Cx) (st : Sto) (H : Hp) (Qd : Bool → Sto → Prop) (Q : Bool → Hp → Prop) : Prop := ∀ b st' H', Qd b st' → Agr X.prog X.w X.K st' H' → Stp st H st' H' → Q b H'
def CnA (X : Cx) (st : Sto) (H : Hp) (Qd : List DV → Sto → Prop) (Q : List V → Hp → Prop) : Prop := ∀ ds st' vs H', Qd ds st' → DVs X.K H' ds vs → Agr X.prog X.w X.K st' H' → Stp st H st' H' → Q vs H'
def CnO (X : Cx) (st : Sto) (H : Hp) (Qd : Option Int → Sto → Prop) (Q : Option Int → Hp → Prop) : Prop := ∀ o st' H', Qd o st' → Agr X.prog X.w X.K st' H' → Stp st H st' H' → Q o H'
abbrev ME := XD → Rho → Sto → (DV → Sto → Prop) → Prop
abbrev MT := XD → Rho → Sto → (Bool → Sto → Prop) → Prop
abbrev MA := XD → Rho → Sto → (List DV → Sto → Prop) → Prop
abbrev MO := XD → Rho → Sto → (Option Int → Sto → Prop) → Prop
structure DEnds where
  nx : Rho → Sto → Prop
  rt : DV → Sto → Prop
  bk : Rho → Sto → Prop := fun _ _ => False
  ct : Rho → Sto → Prop := fun _ _ => False
abbrev MS := XD → DEnds → Rho → Sto → Prop
structure EnR (X : Cx) (E : XK) (W : XD) (st : Sto) (H : Hp) (Dd : DEnds) (D : Ends) : Prop where
  nx : ∀ ρ σ st' H', Dd.nx ρ st' → Sim X E W ρ σ st' H' → Stp st H st' H' → D.nx σ H'
  rt : ∀ d st' v H', Dd.rt d st' → DVr X.K H' d v → Agr X.prog X.w X.K st' H' → Stp st H st' H' → D.rt v H'
  bk : ∀ ρ σ st' H', Dd.bk ρ st' → Sim X E W ρ σ st' H' → Stp st H st' H' → D.bk σ H'
  ct : ∀ ρ σ st' H', Dd.ct ρ st' → Sim X E W ρ σ st' H' → Stp st H st' H' → D.ct σ H'
theorem EnR.step {X : Cx} {E : XK} {W : XD} {st st1 : Sto} {H H1 : Hp} {Dd : DEnds} {D : Ends} (R : EnR X E W st H Dd D) (s : Stp st H st1 H1) : EnR X E W st1 H1 Dd D :=
  ⟨fun ρ σ st' H' a b c => R.nx ρ σ st' H' a b (s.trans c), fun d st' v H' a b c e => R.rt d st' v H' a b c (s.trans e), fun ρ σ st' H' a b c => R.bk ρ σ st' H' a b (s.trans c), fun ρ σ st' H' a b c => R.ct ρ σ st' H' a b (s.trans c)⟩

def DE (X : Cx) (E : XK) (e : Expr) (m : ME) : Prop := ∃ t, PE X e t ∧ ∀ W ρ σ st H Qd Q, Sim X E W ρ σ st H → m W ρ st Qd → Cn X st H Qd Q → t σ H Q
def DT (X : Cx) (E : XK) (e : Expr) (m : MT) : Prop := ∃ t, PT X e t ∧ ∀ W ρ σ st H Qd Q, Sim X E W ρ σ st H → m W ρ st Qd → CnT X st H Qd Q → t σ H Q
def DW (X : Cx) (E : XK) (e : Expr) (m : MT) : Prop := ∃ t, PW X e t ∧ ∀ W ρ σ st H Qd Q, Sim X E W ρ σ st H → m W ρ st Qd → CnT X st H Qd Q → t σ H Q
def DA (X : Cx) (E : XK) (es : List Expr) (m : MA) : Prop := ∃ t, PA X es t ∧ ∀ W ρ σ st H Qd Q, Sim X E W ρ σ st H → m W ρ st Qd → CnA X st H Qd Q → t σ H Q
def DO (X : Cx) (E : XK) (e : Option Expr) (m : MO) : Prop := ∃ t, PO X e t ∧ ∀ W ρ σ st H Qd Q, Sim X E W ρ σ st H → m W ρ st Qd → CnO X st H Qd Q → t σ H Q
def DS (X : Cx) (E : XK) (s : Stmt) (m : MS) : Prop := ∃ t, PS X s t ∧ ∀ W ρ σ st H Dd D, Sim X E W ρ σ st H → m W Dd ρ st → EnR X E W st H Dd D → t D σ H
def DSs (X : Cx) (E : XK) (s : List Stmt) (m : MS) : Prop := ∃ t, PSs X s t ∧ ∀ W ρ σ st H Dd D, Sim X E W ρ σ st H → m W Dd ρ st → EnR X E W st H Dd D → t D σ H

/-! ### names, constants -/
section
variable {X : Cx} {E : XK} {a b c e : Expr} {ma mb mc me : ME} {ta tb : MT} {pos : Pos}
def mVar (i : Nat) : ME := fun _ ρ st Q => match ρ.getD i none with | some d => Q d st | none => False
def mC (d : DV) : ME := fun _ _ st Q => Q d st
theorem de_var (i : Nat) {x : Str} {pos : Pos} (hN : X.N[i]? = some x := by rfl) (hv : Vis X.env.scope x := by first | exact Or.inl rfl | exact Or.inr (Or.inl rfl) | exact Or.inr (Or.inr rfl)) (hd : (x == ("__debug__" : Str)) = false := by decide)
    (hcd : (x == ("__classdict__" : Str)) = false := by decide) : DE X E (.Name x pos) (mVar i) := by
  refine ⟨_, pe_var hN hv hd hcd, fun W ρ σ st H Qd Q S h k => ?_⟩
  unfold mVar at h
  split at h
  · rename_i d q
    have q' : ρ[i]? = some (some d) := by
      rw [List.getD_eq_getElem?_getD] at q
      cases z : ρ[i]? with
      | none => rw [z] at q; cases q
      | some u => rw [z] at q; exact congrArg some q
    obtain ⟨v, e1, e2⟩ := S.r.2 i d q'
    exact ⟨v, e1, k d st v H h e2 S.g (.refl _ _)⟩
  · exact h.elim
theorem de_int {i : Int} {j : Nat} : DE X E (.Constant (.int i) j pos) (mC (.int i)) := ⟨_, pe_int, fun W ρ σ st H Qd Q S h k => k _ _ _ _ h (.int i) S.g (.refl _ _)⟩
theorem de_str {i : Str} {j : Nat} : DE X E (.Constant (.str i) j pos) (mC (.str i)) := ⟨_, pe_str, fun W ρ σ st H Qd Q S h k => k _ _ _ _ h (.str i) S.g (.refl _ _)⟩
theorem de_bl {i : Bool} {j : Nat} : DE X E (.Constant (.bool i) j pos) (mC (.bl i)) := ⟨_, pe_bl, fun W ρ σ st H Qd Q S h k => k _ _ _ _ h (.bl i) S.g (.refl _ _)⟩
theorem de_non {j : Nat} : DE X E (.Constant .none j pos) (mC .non) := ⟨_, pe_non, fun W ρ σ st H Qd Q S h k => k _ _ _ _ h .non S.g (.refl _ _)⟩
/-- a module's constant -/
theorem de_glob {x : Str} {v : V} {u : Value} {d : DV} (hg : Gl X x) (hm : X.mg x = some u) (r : RelV v u) (hd : ∀ H, DVr X.K H d v) (hb : (x == ("__debug__" : Str)) = false := by decide) : DE X E (.Name x pos) (mC d) :=
  ⟨_, pe_glob hg hm r hb, fun W ρ σ st H Qd Q S h k => k _ _ _ _ h (hd H) S.g (.refl _ _)⟩

/-! ### operators -/
/-- an operation on values by the store -/
abbrev D2 := DV → DV → Sto → (DV → Sto → Prop) → Prop
def DOp (X : Cx) (r : R2) (f : D2) : Prop := ∀ x y vx vy st H Qd Q, Agr X.prog X.w X.K st H → DVr X.K H x vx → DVr X.K H y vy → f x y st Qd → Cn X st H Qd Q → r vx vy H Q
def mOp (f : D2) (ma mb : ME) : ME := fun W ρ st Q => ma W ρ st fun x st1 => mb W ρ st1 fun y st2 => f x y st2 Q
theorem de_two {r : R2} {f : D2} {t : TE} (hd : DOp X r f) (ha : DE X E a ma) (hb : DE X E b mb) (h : ∀ ta tb, PE X a ta → PE X b tb → PE X e (tOp r ta tb)) : DE X E e (mOp f ma mb) := by
  obtain ⟨ta, pa, qa⟩ := ha
  obtain ⟨tb, pb, qb⟩ := hb
  refine ⟨_, h ta tb pa pb, fun W ρ σ st H Qd Q S h k => ?_⟩
  refine qa W ρ σ st H _ _ S h fun x st1 v1 H1 h1 r1 g1 s1 => ?_
  have S1 := S.step g1 s1
  refine qb W ρ σ st1 H1 _ _ S1 h1 fun y st2 v2 H2 h2 r2 g2 s2 => ?_
  exact hd x y v1 v2 st2 H2 Qd Q g2 (r1.mono (s2.tup g1)) r2 h2 fun d st' v H' a b c e => k d st' v H' a b c ((s1.trans s2).trans e)
theorem de_op {op : Operator} {r : R2} {f : D2} (ho : OpR X (binaryOp op) r) (hd : DOp X r f) (ha : DE X E a ma) (hb : DE X E b mb) : DE X E (.BinOp a op b pos) (mOp f ma mb) :=
  de_two (t := fun _ _ _ => True) hd ha hb fun _ _ pa pb => pe_op ho pa pb
theorem de_cmp {op : CmpOp} {r : R2} {f : D2} (ho : OpR X (compareOp op) r) (hd : DOp X r f) (ha : DE X E a ma) (hb : DE X E b mb) (hm : behindInMarks op b = false) : DE X E (.Compare a [op] [b] pos) (mOp f ma mb) :=
  de_two (t := fun _ _ _ => True) hd ha hb fun _ _ pa pb => pe_cmpR ho pa pb hm
def mTest (m : ME) : MT := fun W ρ st Q => m W ρ st fun d st1 => match d with | .bl b => Q b st1 | _ => False
theorem dt_cmp {op : CmpOp} {r : R2} {f : D2} (ho : OpR X (compareOp op) r) (hd : DOp X r f) (ha : DE X E a ma) (hb : DE X E b mb) (hm : behindInMarks op b = false) : DT X E (.Compare a [op] [b] pos) (mTest (mOp f ma mb)) := by
  obtain ⟨ta, pa, qa⟩ := ha
  obtain ⟨tb, pb, qb⟩ := hb
  refine ⟨_, pt_cmpR ho pa pb hm, fun W ρ σ st H Qd Q S h k => ?_⟩
  refine qa W ρ σ st H _ _ S h fun x st1 v1 H1 h1 r1 g1 s1 => ?_
  have S1 := S.step g1 s1
  refine qb W ρ σ st1 H1 _ _ S1 h1 fun y st2 v2 H2 h2 r2 g2 s2 => ?_
  refine hd x y v1 v2 st2 H2 _ _ g2 (r1.mono (s2.tup g1)) r2 h2 fun d st' v H' a b c e => ?_
  cases d with
  | bl q => cases b; exact ⟨q, rfl, k q st' H' a c ((s1.trans s2).trans e)⟩
  | _ => exact a.elim
theorem dt_val {m : ME} (he : DE X E e m) (h : ∀ whole, isTrue e X.env whole = (do let v ← whole; standAt e.pos; holding [v] (truthy v)) := by intro _; rfl) : DT X E e (mTest m) := by
  obtain ⟨t, p, q⟩ := he
  refine ⟨_, pt_val p h, fun W ρ σ st H Qd Q S h k => ?_⟩
  refine q W ρ σ st H _ _ S h fun d st' v H' a b c e => ?_
  cases d with
  | bl z => cases b; exact ⟨z, rfl, k z st' H' a c e⟩
  | _ => exact a.elim
def mAnd (ta tb : MT) : MT := fun W ρ st Q => ta W ρ st fun b st1 => if b = true then tb W ρ st1 Q else Q false st1
def mOr (ta tb : MT) : MT := fun W ρ st Q => ta W ρ st fun b st1 => if b = true then Q true st1 else tb W ρ st1 Q
def mNot (ta : MT) : MT := fun W ρ st Q => ta W ρ st fun b st1 => Q (!b) st1
theorem dw_dt (h : DW X E e ta) : DT X E e ta := let ⟨t, p, q⟩ := h; ⟨t, p.pt, q⟩
theorem dw_and1 (h : DT X E a ta) : DW X E (.BoolOp .And [a] pos) ta := let ⟨t, p, q⟩ := h; ⟨t, pw_and1 p, q⟩
theorem dw_or1 (h : DT X E a ta) : DW X E (.BoolOp .Or [a] pos) ta := let ⟨t, p, q⟩ := h; ⟨t, pw_or1 p, q⟩
theorem dw_and {rest : List Expr} (ha : DT X E a ta) (hb : DW X E (.BoolOp .And (b :: rest) pos) tb) : DW X E (.BoolOp .And (a :: b :: rest) pos) (mAnd ta tb) := by
  obtain ⟨u, pa, qa⟩ := ha
  obtain ⟨v, pb, qb⟩ := hb
  refine ⟨_, pw_and pa pb, fun W ρ σ st H Qd Q S h k => ?_⟩
  refine qa W ρ σ st H _ _ S h fun b st1 H1 h1 g1 s1 => ?_
  cases b with
  | true => exact qb W ρ σ st1 H1 Qd Q (S.step g1 s1) h1 fun b st' H' a c d => k b st' H' a c (s1.trans d)
  | false => exact k _ _ _ h1 g1 s1
theorem dw_or {rest : List Expr} (ha : DT X E a ta) (hb : DW X E (.BoolOp .Or (b :: rest) pos) tb) : DW X E (.BoolOp .Or (a :: b :: rest) pos) (mOr ta tb) := by
  obtain ⟨u, pa, qa⟩ := ha
  obtain ⟨v, pb, qb⟩ := hb
  refine ⟨_, pw_or pa pb, fun W ρ σ st H Qd Q S h k => ?_⟩
  refine qa W ρ σ st H _ _ S h fun b st1 H1 h1 g1 s1 => ?_
  cases b with
  | false => exact qb W ρ σ st1 H1 Qd Q (S.step g1 s1) h1 fun b st' H' a c d => k b st' H' a c (s1.trans d)
  | true => exact k _ _ _ h1 g1 s1
theorem dt_not (ha : DT X E a ta) : DT X E (.UnaryOp .Not a pos) (mNot ta) := by
  obtain ⟨u, pa, qa⟩ := ha
  exact ⟨_, pt_not pa, fun W ρ σ st H Qd Q S h k => qa W ρ σ st H _ _ S h fun b st1 H1 h1 g1 s1 => k _ _ _ h1 g1 s1⟩
def mBl (m : ME) (f : Bool → Sto → (DV → Sto → Prop) → Prop) : ME := fun W ρ st Q => m W ρ st fun d st1 => match d with | .bl b => f b st1 Q | _ => False
def mAndV (ma mb : ME) : ME := fun W ρ st Q => ma W ρ st fun d st1 => match d with | .bl b => if b = true then mb W ρ st1 Q else Q (.bl false) st1 | _ => False
def mOrV (ma mb : ME) : ME := fun W ρ st Q => ma W ρ st fun d st1 => match d with | .bl b => if b = true then Q (.bl true) st1 else mb W ρ st1 Q | _ => False
def mNotV (ma : ME) : ME := fun W ρ st Q => ma W ρ st fun d st1 => match d with | .bl b => Q (.bl (!b)) st1 | _ => False
theorem de_one {op : BoolOp} (h : DE X E a ma) : DE X E (.BoolOp op [a] pos) ma := let ⟨t, p, q⟩ := h; ⟨t, pe_one p, q⟩
theorem de_and {rest : List Expr} (ha : DE X E a ma) (hb : DE X E (.BoolOp .And (b :: rest) pos) mb) : DE X E (.BoolOp .And (a :: b :: rest) pos) (mAndV ma mb) := by
  obtain ⟨u, pa, qa⟩ := ha
  obtain ⟨v, pb, qb⟩ := hb
  refine ⟨_, pe_and pa pb, fun W ρ σ st H Qd Q S h k => ?_⟩
  refine qa W ρ σ st H _ _ S h fun d st1 v1 H1 h1 r1 g1 s1 => ?_
  cases d with
  | bl z =>
    cases r1
    refine ⟨z, rfl, ?_⟩
    cases z with
    | true => exact qb W ρ σ st1 H1 Qd Q (S.step g1 s1) h1 fun d st' v H' a b c e => k d st' v H' a b c (s1.trans e)
    | false => exact k _ _ _ _ h1 (.bl _) g1 s1
  | _ => exact h1.elim
theorem de_or {rest : List Expr} (ha : DE X E a ma) (hb : DE X E (.BoolOp .Or (b :: rest) pos) mb) : DE X E (.BoolOp .Or (a :: b :: rest) pos) (mOrV ma mb) := by
  obtain ⟨u, pa, qa⟩ := ha
  obtain ⟨v, pb, qb⟩ := hb
  refine ⟨_, pe_or pa pb, fun W ρ σ st H Qd Q S h k => ?_⟩
  refine qa W ρ σ st H _ _ S h fun d st1 v1 H1 h1 r1 g1 s1 => ?_
  cases d with
  | bl z =>
    cases r1
    refine ⟨z, rfl, ?_⟩
    cases z with
    | false => exact qb W ρ σ st1 H1 Qd Q (S.step g1 s1) h1 fun d st' v H' a b c e => k d st' v H' a b c (s1.trans e)
    | true => exact k _ _ _ _ h1 (.bl _) g1 s1
  | _ => exact h1.elim
theorem de_not (ha : DE X E a ma) : DE X E (.UnaryOp .Not a pos) (mNotV ma) := by
  obtain ⟨u, pa, qa⟩ := ha
  refine ⟨_, pe_not pa, fun W ρ σ st H Qd Q S h k => ?_⟩
  refine qa W ρ σ st H _ _ S h fun d st1 v1 H1 h1 r1 g1 s1 => ?_
  cases d with
  | bl z => cases r1; exact ⟨z, rfl, k _ _ _ _ h1 (.bl _) g1 s1⟩
  | _ => exact h1.elim
def mIf (t : MT) (ma mb : ME) : ME := fun W ρ st Q => t W ρ st fun b st1 => if b = true then ma W ρ st1 Q else mb W ρ st1 Q
theorem de_if (hc : DT X E c ta) (ha : DE X E a ma) (hb : DE X E b mb) : DE X E (.IfExp c a b pos) (mIf ta ma mb) := by
  obtain ⟨u, pc, qc⟩ := hc
  obtain ⟨v, pa, qa⟩ := ha
  obtain ⟨w, pb, qb⟩ := hb
  refine ⟨_, pe_ifExp pc pa pb, fun W ρ σ st H Qd Q S h k => ?_⟩
  refine qc W ρ σ st H _ _ S h fun z st1 H1 h1 g1 s1 => ?_
  have k' : Cn X st1 H1 Qd Q := fun d st' v H' a b c e => k d st' v H' a b c (s1.trans e)
  cases z with
  | true => exact qa W ρ σ st1 H1 Qd Q (S.step g1 s1) h1 k'
  | false => exact qb W ρ σ st1 H1 Qd Q (S.step g1 s1) h1 k'
/-- x < y <= z and its like -/
def mChain (f f' : D2) (ma mb mc : ME) : ME := fun W ρ st Q => ma W ρ st fun x st1 => mb W ρ st1 fun y st2 => f x y st2 fun z st3 => match z with
  | .bl k => if k = true then mc W ρ st3 fun u st4 => f' y u st4 Q else Q (.bl false) st3
  | _ => False
theorem de_chain {op op' : CmpOp} {r r' : R2} {f f' : D2} (ho : OpR X (compareOp op) r) (ho' : OpR X (compareOp op') r') (hd : DOp X r f) (hd' : DOp X r' f') (ha : DE X E a ma) (hb : DE X E b mb) (hc : DE X E c mc)
    (h : ∀ ta tb tc, PE X a ta → PE X b tb → PE X c tc → PE X e (tChain r r' ta tb tc)) : DE X E e (mChain f f' ma mb mc) := by
  obtain ⟨ta, pa, qa⟩ := ha
  obtain ⟨tb, pb, qb⟩ := hb
  obtain ⟨tc, pc, qc⟩ := hc
  refine ⟨_, h ta tb tc pa pb pc, fun W ρ σ st H Qd Q S h k => ?_⟩
  refine qa W ρ σ st H _ _ S h fun x st1 v1 H1 h1 r1 g1 s1 => ?_
  have S1 := S.step g1 s1
  refine qb W ρ σ st1 H1 _ _ S1 h1 fun y st2 v2 H2 h2 r2 g2 s2 => ?_
  have S2 := S1.step g2 s2
  refine hd x y v1 v2 st2 H2 _ _ g2 (r1.mono (s2.tup g1)) r2 h2 fun z st3 v3 H3 h3 r3 g3 s3 => ?_
  have S3 := S2.step g3 s3
  cases z with
  | bl q =>
    cases r3
    refine ⟨q, rfl, ?_⟩
    cases q with
    | true =>
      refine qc W ρ σ st3 H3 _ _ S3 h3 fun u st4 v4 H4 h4 r4 g4 s4 => ?_
      exact hd' y u v2 v4 st4 H4 Qd Q g4 ((r2.mono (s3.tup g2)).mono (s4.tup g3)) r4 h4 fun d st' v H' a b c e => k d st' v H' a b c ((((s1.trans s2).trans s3).trans s4).trans e)
    | false => exact k _ _ _ _ h3 (.bl _) g3 ((s1.trans s2).trans s3)
  | _ => exact h3.elim

/-! ### argument lists, displays -/
def aNil : MA := fun _ _ st Q => Q [] st
def aCons (m : ME) (r : MA) : MA := fun W ρ st Q => m W ρ st fun d st1 => r W ρ st1 fun ds st2 => Q (d :: ds) st2
theorem da_nil : DA X E [] aNil := ⟨_, pa_nil, fun W ρ σ st H Qd Q S h k => k _ _ _ _ h .nil S.g (.refl _ _)⟩
theorem da_cons {es : List Expr} {mr : MA} (ha : DE X E e me) (hr : DA X E es mr) (hs : starEach (e :: es) X.env = (false, eval e X.env) :: starEach es X.env := by rfl) : DA X E (e :: es) (aCons me mr) := by
  obtain ⟨ta, pa, qa⟩ := ha
  obtain ⟨tb, pb, qb⟩ := hr
  refine ⟨_, pa_cons pa pb hs, fun W ρ σ st H Qd Q S h k => ?_⟩
  refine qa W ρ σ st H _ _ S h fun x st1 v1 H1 h1 r1 g1 s1 => ?_
  exact qb W ρ σ st1 H1 _ _ (S.step g1 s1) h1 fun ds st2 vs H2 h2 r2 g2 s2 => k _ _ _ _ h2 (.cons (r1.mono (s2.tup g1)) r2) g2 (s1.trans s2)
def mTup (ms : MA) : ME := fun W ρ st Q => ms W ρ st fun ds st1 => ds.length ≤ sizeLine ∧ Q (.tup ds) st1
def mLst (ms : MA) : ME := fun W ρ st Q => ms W ρ st fun ds st1 => ds.length ≤ sizeLine ∧ ∀ p, st1 p = none → Q (.ref p) (put st1 p (.lst ds))
theorem de_tup {es : List Expr} {ms : MA} {j : Nat} (h : DA X E es ms) : DE X E (.Tuple es j pos) (mTup ms) := by
  obtain ⟨t, p, q⟩ := h
  refine ⟨_, pe_tup p, fun W ρ σ st H Qd Q S h k => ?_⟩
  refine q W ρ σ st H _ _ S h fun ds st1 vs H1 h1 r1 g1 s1 => ⟨by rw [← r1.length]; exact h1.1, fun p hp => ?_⟩
  exact k _ _ _ _ h1.2 (.tup (SqT.of upd_same) (r1.mono (tupX_new hp))) (g1.new0 hp) (s1.trans (Stp.new0 hp))
theorem de_lst {es : List Expr} {ms : MA} (h : DA X E es ms) : DE X E (.List es pos) (mLst ms) := by
  obtain ⟨t, p, q⟩ := h
  refine ⟨_, pe_lst p, fun W ρ σ st H Qd Q S h k => ?_⟩
  refine q W ρ σ st H _ _ S h fun ds st1 vs H1 h1 r1 g1 s1 => ⟨by rw [← r1.length]; exact h1.1, fun p hp => ?_⟩
  exact k _ _ _ _ (h1.2 p (g1.free hp)) (.ref p) (g1.new hp ⟨vs, upd_same, r1.mono (tupX_new hp)⟩) (s1.trans (Stp.new hp))
/-! ### calls of what is by name, by values -/
abbrev DC := List DV → Sto → (DV → Sto → Prop) → Prop
def DCal (X : Cx) (r : List V → Hp → VK → Prop) (f : DC) : Prop := ∀ ds vs st H Qd Q, Agr X.prog X.w X.K st H → DVs X.K H ds vs → f ds st Qd → Cn X st H Qd Q → r vs H Q
def mCal (f : DC) (ms : MA) : ME := fun W ρ st Q => ms W ρ st fun ds st1 => f ds st1 Q
theorem de_cal {r : List V → Hp → VK → Prop} {f : DC} {es : List Expr} {ms : MA} (hd : DCal X r f) (ha : DA X E es ms) (h : ∀ t, PA X es t → PE X e (tCB r t)) : DE X E e (mCal f ms) := by
  obtain ⟨t, p, q⟩ := ha
  refine ⟨_, h t p, fun W ρ σ st H Qd Q S h k => ?_⟩
  refine q W ρ σ st H _ _ S h fun ds st1 vs H1 h1 r1 g1 s1 => ?_
  exact hd ds vs st1 H1 Qd Q g1 r1 h1 fun d st' v H' a b c e => k d st' v H' a b c (s1.trans e)
/-! ### a method of a built-in type by values -/
abbrev DM := DV → List DV → Sto → (DV → Sto → Prop) → Prop
def DMet (X : Cx) (T : String) (r : V → List V → Hp → VK → Prop) (f : DM) : Prop := ∀ x ds v vs st H Qd Q, Agr X.prog X.w X.K st H → DVr X.K H x v → DVs X.K H ds vs → f x ds st Qd → Cn X st H Qd Q → r v vs H Q
/-- the receiver is of the type, at any state of it -/
def DTy (X : Cx) (T : String) (c : DV → Sto → Prop) : Prop := ∀ x v st H, Agr X.prog X.w X.K st H → DVr X.K H x v → c x st → tyV X.K T v H
def mMet (c : DV → Sto → Prop) (f : DM) (mo : ME) (ms : MA) : ME := fun W ρ st Q => mo W ρ st fun x st1 => c x st1 ∧ ms W ρ st1 fun ds st2 => f x ds st2 Q
theorem de_met {T : String} {r : V → List V → Hp → VK → Prop} {cc : DV → Sto → Prop} {f : DM} {es : List Expr} {ms : MA} {o : Expr} {mo : ME} (ht : DTy X T cc) (hd : DMet X T r f) (ho : DE X E o mo) (ha : DA X E es ms)
    (h : ∀ to t, PE X o to → PA X es t → PE X e (tBM X.K T r to t)) : DE X E e (mMet cc f mo ms) := by
  obtain ⟨to, po, qo⟩ := ho
  obtain ⟨t, p, q⟩ := ha
  refine ⟨_, h to t po p, fun W ρ σ st H Qd Q S h k => ?_⟩
  refine qo W ρ σ st H _ _ S h fun x st1 v1 H1 h1 r1 g1 s1 => ⟨ht x v1 st1 H1 g1 r1 h1.1, ?_⟩
  refine q W ρ σ st1 H1 _ _ (S.step g1 s1) h1.2 fun ds st2 vs H2 h2 r2 g2 s2 => ?_
  exact hd x ds v1 vs st2 H2 Qd Q g2 (r1.mono (s2.tup g1)) r2 h2 fun d st' v H' a b c e => k d st' v H' a b c ((s1.trans s2).trans e)
theorem de_met0 {T : String} {r : V → List V → Hp → VK → Prop} {cc : DV → Sto → Prop} {f : DM} {o : Expr} {mo : ME} (ht : DTy X T cc) (hd : DMet X T r f) (ho : DE X E o mo)
    (h : ∀ to, PE X o to → PE X e (tBM0 X.K T r to)) : DE X E e (mMet cc f mo aNil) := by
  obtain ⟨to, po, qo⟩ := ho
  refine ⟨_, h to po, fun W ρ σ st H Qd Q S h k => ?_⟩
  refine qo W ρ σ st H _ _ S h fun x st1 v1 H1 h1 r1 g1 s1 => ⟨ht x v1 st1 H1 g1 r1 h1.1, ?_⟩
  exact hd x [] v1 [] st1 H1 Qd Q g1 r1 .nil h1.2 fun d st' v H' a b c e => k d st' v H' a b c (s1.trans e)
/-! ### slices -/
def oNone : MO := fun _ _ st Q => Q none st
def oSome (m : ME) : MO := fun W ρ st Q => m W ρ st fun d st1 => match d with | .int i => Q (some i) st1 | _ => False
theorem do_none : DO X E none oNone := ⟨_, po_none, fun W ρ σ st H Qd Q S h k => k _ _ _ h S.g (.refl _ _)⟩
theorem do_some (h : DE X E e me) : DO X E (some e) (oSome me) := by
  obtain ⟨t, p, q⟩ := h
  refine ⟨_, po_some p, fun W ρ σ st H Qd Q S h k => ?_⟩
  refine q W ρ σ st H _ _ S h fun x st1 v1 H1 h1 r1 g1 s1 => ?_
  cases x with
  | int i => cases r1; exact ⟨i, rfl, k _ _ _ h1 g1 s1⟩
  | _ => exact h1.elim
abbrev D3 := DV → Option Int → Option Int → Sto → (DV → Sto → Prop) → Prop
def DSl (X : Cx) (r : V → Option Int → Option Int → Hp → VK → Prop) (f : D3) : Prop := ∀ x lo hi v st H Qd Q, Agr X.prog X.w X.K st H → DVr X.K H x v → f x lo hi st Qd → Cn X st H Qd Q → r v lo hi H Q
def mSl (f : D3) (ma : ME) (lo hi : MO) : ME := fun W ρ st Q => ma W ρ st fun x st1 => lo W ρ st1 fun l st2 => hi W ρ st2 fun u st3 => f x l u st3 Q
theorem de_slice {r : V → Option Int → Option Int → Hp → VK → Prop} {f : D3} {lo hi : Option Expr} {ml mh : MO} {p2 : Pos} (hr : SlR X r) (hd : DSl X r f) (ha : DE X E a ma) (hl : DO X E lo ml) (hh : DO X E hi mh) : DE X E (.Subscript a (.Slice lo hi none p2) pos) (mSl f ma ml mh) := by
  obtain ⟨ta, pa, qa⟩ := ha
  obtain ⟨tl, pl, ql⟩ := hl
  obtain ⟨th, ph, qh⟩ := hh
  refine ⟨_, pe_slice hr pa pl ph, fun W ρ σ st H Qd Q S h k => ?_⟩
  refine qa W ρ σ st H _ _ S h fun x st1 v1 H1 h1 r1 g1 s1 => ?_
  have S1 := S.step g1 s1
  refine ql W ρ σ st1 H1 _ _ S1 h1 fun l st2 H2 h2 g2 s2 => ?_
  have S2 := S1.step g2 s2
  refine qh W ρ σ st2 H2 _ _ S2 h2 fun u st3 H3 h3 g3 s3 => ?_
  exact hd x l u v1 st3 H3 Qd Q g3 ((r1.mono (s2.tup g1)).mono (s3.tup g2)) h3 fun d st' v H' a b c e => k d st' v H' a b c (((s1.trans s2).trans s3).trans e)
end
end Sw

namespace Sw
open PySem PySem.Spec PyProof.Rows L2
section
variable {X : Cx} {E : XK} {a b c e : Expr} {ma mb mc me : ME} {ta tb : MT} {pos : Pos}
/-! ### targets -/
abbrev MG := XD → DV → Rho → Sto → (Rho → Sto → Prop) → Prop
abbrev MGs := XD → List DV → Rho → Sto → (Rho → Sto → Prop) → Prop
def CnG (X : Cx) (E : XK) (W : XD) (st : Sto) (H : Hp) (Qd : Rho → Sto → Prop) (Q : L2.St → Hp → Prop) : Prop := ∀ ρ σ st' H', Qd ρ st' → Sim X E W ρ σ st' H' → Stp st H st' H' → Q σ H'
def DG (X : Cx) (E : XK) (tg : Expr) (g : MG) : Prop := ∃ t, PG X tg t ∧ ∀ W d v ρ σ st H Qd Q, Sim X E W ρ σ st H → DVr X.K H d v → g W d ρ st Qd → CnG X E W st H Qd Q → t v σ H Q
def DGs (X : Cx) (E : XK) (tg : List Expr) (g : MGs) : Prop := ∃ t, PGs X tg t ∧ ∀ W ds vs ρ σ st H Qd Q, Sim X E W ρ σ st H → DVs X.K H ds vs → g W ds ρ st Qd → CnG X E W st H Qd Q → t vs σ H Q
def gNm (i : Nat) : MG := fun _ d ρ st Q => Q (ρ.set i (some d)) st
theorem dg_name (i : Nat) {x : Str} (hN : X.N.Nodup) (hi : X.N[i]? = some x := by rfl) (hx : Loc X.env.scope x := by first | exact .inl rfl | exact .inr rfl) (hf : X.fn x = true ∨ X.env.scope.names.lookup x = some .local := by first | exact .inl rfl | exact .inr rfl | assumption) : DG X E (.Name x pos) (gNm i) :=
  ⟨_, pg_name hN hi hx hf, fun W d v ρ σ st H Qd Q S r h k => k _ _ _ _ h (S.set r) (.refl _ _)⟩
def gNl : MGs := fun _ ds ρ st Q => match ds with | [] => Q ρ st | _ => False
def gCn (g : MG) (r : MGs) : MGs := fun W ds ρ st Q => match ds with | d :: es => g W d ρ st fun ρ1 st1 => r W es ρ1 st1 Q | [] => False
theorem dgs_nil : DGs X E [] gNl := ⟨_, pgs_nil, fun W ds vs ρ σ st H Qd Q S r h k => by
  cases r with
  | nil => exact ⟨rfl, k _ _ _ _ h S (.refl _ _)⟩
  | cons _ _ => exact h.elim⟩
theorem dgs_cons {es : List Expr} {g : MG} {gs : MGs} (h1 : DG X E e g) (h2 : DGs X E es gs) (hs : (assignEach (e :: es) X.env).map (·.2) = assign e X.env :: (assignEach es X.env).map (·.2) := by rfl) : DGs X E (e :: es) (gCn g gs) := by
  obtain ⟨t1, p1, q1⟩ := h1
  obtain ⟨t2, p2, q2⟩ := h2
  refine ⟨_, pgs_cons p1 p2 hs, fun W ds vs ρ σ st H Qd Q S r h k => ?_⟩
  cases r with
  | nil => exact h.elim
  | cons r rr =>
    refine ⟨_, _, rfl, q1 W _ _ ρ σ st H _ _ S r h fun ρ1 σ1 st1 H1 h1 S1 s1 => ?_⟩
    exact q2 W _ _ ρ1 σ1 st1 H1 Qd Q S1 (rr.mono (s1.tup S.g)) h1 fun ρ2 σ2 st2 H2 a b c => k _ _ _ _ a b (s1.trans c)
def gTp (n : Nat) (gs : MGs) : MG := fun W d ρ st Q => match d with | .tup ds => ds.length = n ∧ gs W ds ρ st Q | _ => False
theorem dg_tup {es : List Expr} {k : Nat} {gs : MGs} {n : Nat} (hc : X.calm = true) (h : DGs X E es gs) (hn : (assignEach es X.env).length = n := by rfl) (hst : (assignEach es X.env).findIdx? (·.1) = none := by rfl) : DG X E (.Tuple es k pos) (gTp n gs) := by
  obtain ⟨t, p, q⟩ := h
  refine ⟨_, pg_tup hc p hn hst, fun W d v ρ σ st H Qd Q S r h k => ?_⟩
  cases r with
  | tup hq hs => exact ⟨_, _, rfl, hq, by rw [← hs.length]; exact h.1, q W _ _ ρ σ st H Qd Q S hs h.2 k⟩
  | _ => exact h.elim
/-- o[i] = v by values -/
abbrev D3S := DV → DV → DV → Sto → (Sto → Prop) → Prop
def DSetR (X : Cx) (t : TSet) (f : D3S) : Prop := ∀ o i d vo vi v st H Qd Q, Agr X.prog X.w X.K st H → DVr X.K H o vo → DVr X.K H i vi → DVr X.K H d v → f o i d st Qd → (∀ st' H', Qd st' → Agr X.prog X.w X.K st' H' → Stp st H st' H' → Q H') → t vo vi v H Q
def gSb (f : D3S) (mo mi : ME) : MG := fun W d ρ st Q => mo W ρ st fun o st1 => mi W ρ st1 fun i st2 => f o i d st2 fun st3 => Q ρ st3
theorem dg_sub {o i : Expr} {mo mi : ME} {t : TSet} {f : D3S} (hs : PSet X t) (hd : DSetR X t f) (ho : DE X E o mo) (hi : DE X E i mi)
    (ha : ∀ v, assign (.Subscript o i pos) X.env v = (do
      let ov ← holding [v] (eval o X.env)
      let iv ← holding [v, ov] (eval i X.env)
      standAt pos
      holding [v, ov, iv] (setItem ov iv v)
      release [v, ov, iv] []) := by intro _; rfl) : DG X E (.Subscript o i pos) (gSb f mo mi) := by
  obtain ⟨to, po, qo⟩ := ho
  obtain ⟨ti, pi, qi⟩ := hi
  refine ⟨_, pg_sub po pi hs ha, fun W d v ρ σ st H Qd Q S r h k => ?_⟩
  refine qo W ρ σ st H _ _ S h fun o1 st1 v1 H1 h1 r1 g1 s1 => ?_
  have S1 := S.step g1 s1
  refine qi W ρ σ st1 H1 _ _ S1 h1 fun i1 st2 v2 H2 h2 r2 g2 s2 => ?_
  have S2 := S1.step g2 s2
  refine hd o1 i1 d v1 v2 v st2 H2 _ _ g2 (r1.mono (s2.tup g1)) r2 ((r.mono (s1.tup S.g)).mono (s2.tup g1)) h2 fun st3 H3 h3 g3 s3 => ?_
  exact k _ _ _ _ h3 (S2.step g3 s3) ((s1.trans s2).trans s3)

/-! ### statements -/
def sNx : MS := fun _ D ρ st => D.nx ρ st
def sSeq (m n : MS) : MS := fun W D ρ st => m W { D with nx := fun ρ1 st1 => n W D ρ1 st1 } ρ st
def sDrop (m : ME) : MS := fun W D ρ st => m W ρ st fun _ st1 => D.nx ρ st1
def sRet (m : ME) : MS := fun W D ρ st => m W ρ st D.rt
def sRetN : MS := fun _ D _ st => D.rt .non st
def sIf (t : MT) (m n : MS) : MS := fun W D ρ st => t W ρ st fun b st1 => if b = true then m W D ρ st1 else n W D ρ st1
def sAsg (m : ME) (g : MG) : MS := fun W D ρ st => m W ρ st fun d st1 => g W d ρ st1 D.nx
def sNever : MS := fun _ _ _ _ => False
variable {s : Stmt} {ss : List Stmt} {m n : MS}
theorem dss_nil : DSs X E [] sNx := ⟨_, pss_nil, fun W ρ σ st H Dd D S h R => R.nx ρ σ st H h S (.refl _ _)⟩
theorem dss_cons (h1 : DS X E s m) (h2 : DSs X E ss n) : DSs X E (s :: ss) (sSeq m n) := by
  obtain ⟨t, p, q⟩ := h1
  obtain ⟨u, p2, q2⟩ := h2
  refine ⟨_, pss_cons p p2, fun W ρ σ st H Dd D S h R => ?_⟩
  refine q W ρ σ st H _ _ S h ⟨fun ρ1 σ1 st1 H1 a b c => ?_, R.rt, R.bk, R.ct⟩
  exact q2 W ρ1 σ1 st1 H1 Dd D b a (R.step c)
theorem dss_one (h1 : DS X E s m) : DSs X E [s] m := let ⟨t, p, q⟩ := h1; ⟨t, pss_one p, q⟩
theorem ds_pass : DS X E (.Pass pos) sNx := ⟨_, ps_pass, fun W ρ σ st H Dd D S h R => R.nx ρ σ st H h S (.refl _ _)⟩
def sBk : MS := fun _ D ρ st => D.bk ρ st
def sCt : MS := fun _ D ρ st => D.ct ρ st
theorem ds_break : DS X E (.Break pos) sBk := ⟨_, ps_break, fun W ρ σ st H Dd D S h R => R.bk ρ σ st H h S (.refl _ _)⟩
theorem ds_continue : DS X E (.Continue pos) sCt := ⟨_, ps_continue, fun W ρ σ st H Dd D S h R => R.ct ρ σ st H h S (.refl _ _)⟩
theorem ds_expr (he : DE X E e me) (hs : swapsWith e none pos.line X.env = pure false := by rfl) : DS X E (.Expr e pos) (sDrop me) := by
  obtain ⟨t, p, q⟩ := he
  exact ⟨_, ps_expr p hs, fun W ρ σ st H Dd D S h R => q W ρ σ st H _ _ S h fun d st1 v1 H1 h1 r1 g1 s1 => R.nx _ _ _ _ h1 (S.step g1 s1) s1⟩
theorem ds_ret (he : DE X E e me) : DS X E (.Return (some e) pos) (sRet me) := by
  obtain ⟨t, p, q⟩ := he
  exact ⟨_, ps_ret p, fun W ρ σ st H Dd D S h R => q W ρ σ st H _ _ S h fun d st1 v1 H1 h1 r1 g1 s1 => R.rt _ _ _ _ h1 r1 g1 s1⟩
theorem ds_retN : DS X E (.Return none pos) sRetN := ⟨_, ps_retN, fun W ρ σ st H Dd D S h R => R.rt _ _ _ _ h .non S.g (.refl _ _)⟩
theorem ds_if {sa sb : List Stmt} {t : MT} (hc : DT X E c t) (ha : DSs X E sa m) (hb : DSs X E sb n) : DS X E (.If c sa sb pos) (sIf t m n) := by
  obtain ⟨t, p, q⟩ := hc
  obtain ⟨t1, p1, q1⟩ := ha
  obtain ⟨t2, p2, q2⟩ := hb
  refine ⟨_, ps_if p p1 p2, fun W ρ σ st H Dd D S h R => ?_⟩
  refine q W ρ σ st H _ _ S h fun z st1 H1 h1 g1 s1 => ?_
  cases z with
  | true => exact q1 W ρ σ st1 H1 Dd D (S.step g1 s1) h1 (R.step s1)
  | false => exact q2 W ρ σ st1 H1 Dd D (S.step g1 s1) h1 (R.step s1)
theorem ds_never : DS X E s sNever := ⟨_, ps_never, fun W ρ σ st H Dd D S h R => h⟩
theorem dss_never : DSs X E ss sNever := ⟨_, pss_never, fun W ρ σ st H Dd D S h R => h⟩
theorem ds_asg {tg : Expr} {g : MG} (he : DE X E e me) (hg : DG X E tg g) (hs : swapsWithSole [tg] e pos.line X.env = pure false := by rfl) (hw : swappedStores [tg] e X.env = pure none := by rfl)
    (h1 : (assignEach [tg] X.env).map (·.2) = [assign tg X.env] := by rfl) : DS X E (.Assign [tg] e pos) (sAsg me g) := by
  obtain ⟨t, p, q⟩ := he
  obtain ⟨t1, p1, q1⟩ := hg
  refine ⟨_, ps_asg p p1 hs hw h1, fun W ρ σ st H Dd D S h R => ?_⟩
  refine q W ρ σ st H _ _ S h fun d st1 v1 H1 h1 r1 g1 s1 => ?_
  exact q1 W d v1 ρ σ st1 H1 _ _ (S.step g1 s1) r1 h1 fun ρ2 σ2 st2 H2 a b c => R.nx _ _ _ _ a b (s1.trans c)
theorem ds_set (i : Nat) {x : Str} {pos' : Pos} (hN : X.N.Nodup) (he : DE X E e me) (hi : X.N[i]? = some x := by rfl) (hx : Loc X.env.scope x := by first | exact .inl rfl | exact .inr rfl) (hs : swapsWith e (some (.Name x pos')) pos.line X.env = pure false := by rfl)
    (hf : X.fn x = true ∨ X.env.scope.names.lookup x = some .local := by first | exact .inl rfl | exact .inr rfl | assumption) : DS X E (.Assign [.Name x pos'] e pos) (sAsg me (gNm i)) := by
  obtain ⟨t, p, q⟩ := he
  refine ⟨_, ps_set hN hi hx p hs hf, fun W ρ σ st H Dd D S h R => ?_⟩
  exact q W ρ σ st H _ _ S h fun d st1 v1 H1 h1 r1 g1 s1 => R.nx _ _ _ _ h1 ((S.step g1 s1).set r1) s1

/-! ### what is walked -/
def lockS (st : Sto) (ls : List Addr) : Sto := fun a => if a ∈ ls then (match st a with | some (.lst ds) => some (.rol ds) | o => o) else st a
def unlockS (st0 st : Sto) (ls : List Addr) : Sto := fun a => if a ∈ ls then (match st0 a with | some (.lst ds) => some (.lst ds) | _ => st a) else st a
theorem lockS_nil (st : Sto) : lockS st [] = st := by funext a; simp [lockS]
theorem unlockS_nil (st0 st : Sto) : unlockS st0 st [] = st := by funext a; simp [unlockS]
theorem lockS_one {st : Sto} {a : Addr} {ds : List DV} (h : st a = some (.lst ds)) : lockS st [a] = put st a (.rol ds) := by
  funext b; by_cases e : b = a
  · subst e; simp [lockS, h, put]
  · simp [lockS, e, put]
theorem lockS_ro {st : Sto} {a : Addr} {ds : List DV} (h : st a = some (.rol ds)) : lockS st [a] = st := by
  funext b; by_cases e : b = a
  · subst e; simp [lockS, h]
  · simp [lockS, e]
theorem unlockS_one {st st' : Sto} {a : Addr} {ds : List DV} (h : st a = some (.lst ds)) : unlockS st st' [a] = put st' a (.lst ds) := by
  funext b; by_cases e : b = a
  · subst e; simp [unlockS, h, put]
  · simp [unlockS, e, put]
theorem unlockS_ro {st st' : Sto} {a : Addr} {ds : List DV} (h : st a = some (.rol ds)) : unlockS st st' [a] = st' := by
  funext b; by_cases e : b = a
  · subst e; simp [unlockS, h]
  · simp [unlockS, e]
theorem lock_agr {P : Program} {w : World} {K : PySem.W.Frag} {st : Sto} {H : Hp} (g : Agr P w K st H) (ls : List Addr) : Agr P w K (lockS st ls) H := fun a o h => by
  unfold lockS at h
  split at h
  · cases q : st a with
    | none => rw [q] at h; cases h
    | some u =>
      have r := g a u q
      cases u with
      | lst ds => rw [q] at h; cases h; obtain ⟨xs, e, z⟩ := r; exact ⟨xs, .inl e, z⟩
      | _ => rw [q] at h; cases h; exact r
  · exact g a o h
theorem lock_none {st : Sto} {ls : List Addr} {a : Addr} (h : st a = none) : lockS st ls a = none := by
  unfold lockS; split
  · rw [h]
  · exact h
/-- through a loop and out of it -/
theorem unlock_all {P : Program} {w : World} {K : PySem.W.Frag} {st st' : Sto} {H H' : Hp} {ls : List Addr} (g : Agr P w K st H) (g' : Agr P w K st' H') (s : Stp (lockS st ls) H st' H') :
    Agr P w K (unlockS st st' ls) H' ∧ Stp st H (unlockS st st' ls) H' := by
  have t : TupX K H H' := s.tup (lock_agr g ls)
  have hl : ∀ a ds, a ∈ ls → st a = some (.lst ds) → ∃ xs, H a = some (.lst xs) ∧ H' a = some (.lst xs) ∧ DVs K H' ds xs := fun a ds ha q => by
    obtain ⟨xs, e, z⟩ := g a _ q
    have q' : lockS st ls a = some (.rol ds) := by unfold lockS; rw [if_pos ha, q]
    exact ⟨xs, e, (s.ro a _ _ e q' rfl).1, z.mono t⟩
  refine ⟨fun a o h => ?_, fun a o h n => ?_, fun a o h n => ?_, fun a ds o h q i => ?_, s.all⟩
  · unfold unlockS at h
    split at h
    · rename_i ha
      cases q : st a with
      | none => rw [q] at h; exact g' a o h
      | some u =>
        cases u with
        | lst ds => rw [q] at h; cases h; obtain ⟨xs, _, e, z⟩ := hl a ds ha q; exact ⟨xs, e, z⟩
        | _ => rw [q] at h; exact g' a o h
    · exact g' a o h
  · exact s.keep a o h (lock_none n)
  · unfold unlockS
    split
    · rw [n]; exact s.dom a o h (lock_none n)
    · exact s.dom a o h (lock_none n)
  · have q' : lockS st ls a = some ds := by
      unfold lockS; split
      · rw [q]; cases ds <;> first | rfl | cases i
      · exact q
    obtain ⟨e, z⟩ := s.ro a ds o h q' i
    refine ⟨e, fun u hu => ?_⟩
    unfold unlockS at hu
    split at hu
    · rw [q] at hu; cases ds <;> first | exact z u hu | cases i
    · exact z u hu
abbrev MI := XD → Rho → Sto → (List DV → List Addr → Sto → Prop) → Prop
/-- the items come one by one as long as what is walked stands -/
def Ylds (K : PySem.W.Frag) (J : It) (ds : List DV) (ls : List Addr) (H : Hp) : Prop := ∀ H2, (∀ a ∈ ls, H2 a = H a) → TupX K H H2 →
  (∀ (i : Nat) (hi : i < ds.length), J.go i H2 ∧ ∀ x H3, J.yld i H2 x H3 → (H3 = H2 ∨ ∃ T xs, H2 T = none ∧ H3 = upd H2 T (.tup xs)) ∧ DVr K H3 ds[i] x) ∧ J.stop ds.length H2
/-- each thing walked stands in the store as a list -/
def LsOk (st : Sto) (ls : List Addr) : Prop := ∀ a ∈ ls, ∃ u, st a = some u ∧ (isRo u = true ∨ ∃ ds, u = .lst ds)
def DI (X : Cx) (E : XK) (tg iter : Expr) (mi : MI) : Prop := ∃ wi, PI X tg iter wi ∧ ∀ W ρ σ st H Qd R, Sim X E W ρ σ st H → mi W ρ st Qd →
  (∀ ds ls st' H' J, Qd ds ls st' → Agr X.prog X.w X.K st' H' → Stp st H st' H' → LsOk st' ls → Ylds X.K J ds ls H' → R J H') → wi σ H R
def forL (W : XD) (g : MG) (m : MS) (D : DEnds) : List DV → Rho → Sto → Prop
  | [], ρ, st => D.nx ρ st
  | d :: r, ρ, st => g W d ρ st fun ρ1 st1 => m W { D with nx := fun ρ2 st2 => forL W g m D r ρ2 st2, ct := fun ρ2 st2 => forL W g m D r ρ2 st2, bk := D.nx } ρ1 st1
def outD (D : DEnds) (st0 : Sto) (ls : List Addr) : DEnds := { nx := fun ρ st => D.nx ρ (unlockS st0 st ls), rt := fun d st => D.rt d (unlockS st0 st ls) }
def sFor (mi : MI) (g : MG) (m : MS) : MS := fun W D ρ st => mi W ρ st fun ds ls st1 => forL W g m (outD D st1 ls) ds ρ (lockS st1 ls)
/-- what stands through a loop: what is walked, the tuples -/
theorem lock_stands {st st' : Sto} {H H' : Hp} {ls : List Addr} {P : Program} {w : World} {K : PySem.W.Frag} (g : Agr P w K st H) (l : LsOk st ls) (s : Stp (lockS st ls) H st' H') : ∀ a ∈ ls, H' a = H a := fun a ha => by
  obtain ⟨u, q, hu⟩ := l a ha
  have q' : ∃ v, lockS st ls a = some v ∧ isRo v = true := by
    unfold lockS; rw [if_pos ha, q]
    rcases hu with hu | ⟨ds, rfl⟩
    · cases u <;> first | exact ⟨_, rfl, hu⟩ | cases hu
    · exact ⟨_, rfl, rfl⟩
  obtain ⟨v, q', hv⟩ := q'
  obtain ⟨u, e⟩ := (lock_agr g ls).some_of q'
  rw [e]; exact (s.ro a _ u e q' hv).1
theorem yld_step {K : PySem.W.Frag} {st : Sto} {H H3 : Hp} {P : Program} {w : World} (g : Agr P w K st H) (h : H3 = H ∨ ∃ T xs, H T = none ∧ H3 = upd H T (.tup xs)) : Agr P w K st H3 ∧ Stp st H st H3 := by
  rcases h with rfl | ⟨T, xs, n, rfl⟩
  · exact ⟨g, .refl _ _⟩
  · exact ⟨g.new0 n, Stp.new0 n⟩
theorem ds_for {tg iter : Expr} {body : List Stmt} {mi : MI} {g : MG} (hp : PassesOwn (model X.prog X.w) X.A X.env X.xe) (hc : X.calm = true) (hi : DI X E tg iter mi) (hg : DG X E tg g) (hb : DSs X E body m)
    (hs : ∀ x, foldedSetIterable iter X.env x = pure x := by intro _; rfl) : DS X E (.For tg iter body [] pos) (sFor mi g m) := by
  obtain ⟨wi, pi, qi⟩ := hi
  obtain ⟨tg1, pg, qg⟩ := hg
  obtain ⟨tb, pb, qb⟩ := hb
  refine ⟨_, ps_for hp hc pi pg pb hs, fun W ρ σ st H Dd D S h R => ?_⟩
  refine qi W ρ σ st H _ _ S h fun ds ls st1 H1 J h1 g1 s1 l1 y1 => ?_
  -- the invariant: what is left is to be walked
  refine ⟨fun i m σ2 H2 => ∃ ρ2 st2, m + i = ds.length ∧ Sim X E W ρ2 σ2 st2 H2 ∧ Stp (lockS st1 ls) H1 st2 H2 ∧ forL W g _ (outD Dd st1 ls) (ds.drop i) ρ2 st2, ⟨ds.length, ρ, lockS st1 ls, by omega, ?_, .refl _ _, by simpa using h1⟩, ?_⟩
  · have S1 := S.step g1 s1
    refine ⟨S1.r, lock_agr g1 ls, fun C fs st' H' o a b c d => ?_⟩
    -- an exception leaves: the store without locks is one of the locked
    have u := unlock_all g1 b c
    refine S.x C fs st' H' o a b ?_ (d.back s1.all)
    exact s1.trans ⟨fun x y hx n => c.keep x y hx (lock_none n), fun x y hx n => c.dom x y hx (lock_none n), fun x es y hx q i => by
      have q' : lockS st1 ls x = some es := by
        unfold lockS; split
        · rw [q]; cases es <;> first | rfl | cases i
        · exact q
      exact c.ro x es y hx q' i, c.all⟩
  rintro i m σ2 H2 ⟨ρ2, st2, hm, S2, s2, h2⟩
  have hl := lock_stands g1 l1 s2
  have t2 : TupX X.K H1 H2 := s2.tup (lock_agr g1 ls)
  obtain ⟨yg, ys⟩ := y1 H2 hl t2
  by_cases hlt : i < ds.length
  · obtain ⟨go, yl⟩ := yg i hlt
    refine .inr ⟨go, fun σ' H' => ∃ ρ' st', Sim X E W ρ' σ' st' H' ∧ Stp (lockS st1 ls) H1 st' H' ∧ forL W g _ (outD Dd st1 ls) (ds.drop (i + 1)) ρ' st', fun σ' H' ⟨ρ', st', a, b, c⟩ => ⟨m - 1, by omega, ρ', st', by omega, a, b, c⟩, fun x H3 hy => ?_⟩
    obtain ⟨hx, rx⟩ := yl x H3 hy
    obtain ⟨g3, s3⟩ := yld_step S2.g hx
    have S3 := S2.step g3 s3
    rw [List.drop_eq_getElem_cons hlt] at h2
    refine qg W _ x ρ2 σ2 st2 H3 _ _ S3 rx h2 fun ρ4 σ4 st4 H4 h4 S4 s4 => ?_
    refine qb W ρ4 σ4 st4 H4 _ _ S4 h4 ⟨fun ρ5 σ5 st5 H5 a b c => ?_, fun d st5 v H5 a b c e => ?_, fun ρ5 σ5 st5 H5 a b c => ?_, fun ρ5 σ5 st5 H5 a b c => ?_⟩
    · exact ⟨ρ5, st5, b, ((s2.trans s3).trans s4).trans c, a⟩
    · have u := unlock_all g1 c (((s2.trans s3).trans s4).trans e)
      exact R.rt d _ v H5 a b u.1 (s1.trans u.2)
    · have u := unlock_all g1 b.g (((s2.trans s3).trans s4).trans c)
      exact R.nx ρ5 σ5 _ H5 a ⟨b.r, u.1, (S.step g1 s1).step u.1 u.2 |>.x⟩ (s1.trans u.2)
    · exact ⟨ρ5, st5, b, ((s2.trans s3).trans s4).trans c, a⟩
  · have e : i = ds.length := by omega
    subst e
    have u := unlock_all g1 S2.g s2
    rw [List.drop_length] at h2
    exact .inl ⟨ys, R.nx ρ2 σ2 _ H2 h2 ⟨S2.r, u.1, ((S.step g1 s1).step u.1 u.2).x⟩ (s1.trans u.2)⟩

/-! ### while: an invariant with its measure -/
def sWhile (t : MT) (m : MS) : MS := fun W D ρ st => ∃ I : Nat → Rho → Sto → Prop, (∃ k, I k ρ st) ∧ ∀ k ρ st, I k ρ st →
  t W ρ st fun b st1 => if b = true then m W { D with nx := fun ρ2 st2 => ∃ k', k' < k ∧ I k' ρ2 st2, ct := fun ρ2 st2 => ∃ k', k' < k ∧ I k' ρ2 st2, bk := D.nx } ρ st1 else D.nx ρ st1
theorem ds_while {body : List Stmt} {t : MT} (hp : PassesOwn (model X.prog X.w) X.A X.env X.xe) (hc : DT X E c t) (hb : DSs X E body m) : DS X E (.While c body [] pos) (sWhile t m) := by
  obtain ⟨tc, pc, qc⟩ := hc
  obtain ⟨tb, pb, qb⟩ := hb
  refine ⟨_, ps_while hp pc pb, fun W ρ σ st H Dd D S h R => ?_⟩
  obtain ⟨I, ⟨k0, i0⟩, turn⟩ := h
  refine ⟨fun k σ2 H2 => ∃ ρ2 st2, I k ρ2 st2 ∧ Sim X E W ρ2 σ2 st2 H2 ∧ Stp st H st2 H2, ⟨k0, ρ, st, i0, S, .refl _ _⟩, ?_⟩
  rintro k σ2 H2 ⟨ρ2, st2, i2, S2, s2⟩
  refine qc W ρ2 σ2 st2 H2 _ _ S2 (turn k ρ2 st2 i2) fun z st3 H3 h3 g3 s3 => ?_
  have S3 := S2.step g3 s3
  cases z with
  | true =>
    refine ⟨fun σ' H' => ∃ ρ' st', (∃ k', k' < k ∧ I k' ρ' st') ∧ Sim X E W ρ' σ' st' H' ∧ Stp st H st' H', fun σ' H' ⟨ρ', st', ⟨k', hk, i'⟩, a, b⟩ => ⟨k', hk, ρ', st', i', a, b⟩, ?_⟩
    refine qb W ρ2 σ2 st3 H3 _ _ S3 h3 ⟨fun ρ5 σ5 st5 H5 a b c => ?_, fun d st5 v H5 a b c e => ?_, fun ρ5 σ5 st5 H5 a b c => ?_, fun ρ5 σ5 st5 H5 a b c => ?_⟩
    · exact ⟨ρ5, st5, a, b, (s2.trans s3).trans c⟩
    · exact R.rt d _ v H5 a b c ((s2.trans s3).trans e)
    · exact R.nx ρ5 σ5 _ H5 a b ((s2.trans s3).trans c)
    · exact ⟨ρ5, st5, a, b, (s2.trans s3).trans c⟩
  | false => exact R.nx ρ2 σ2 st3 H3 h3 S3 (s2.trans s3)

/-! ### defs -/
abbrev DSp := List DV → Sto → (DV → Sto → Prop) → XD → Prop
def spOf (P : Program) (w : World) (K : PySem.W.Frag) (sp : DSp) : Sp := fun vs H Q E => ∃ ds st Qd W, DVs K H ds vs ∧ Agr P w K st H ∧ sp ds st Qd W ∧
  (∀ d st' v H', Qd d st' → DVr K H' d v → Agr P w K st' H' → Stp st H st' H' → Q v H') ∧ XR P w K st H W E
def mCall (sp : DSp) (ms : MA) : ME := fun W ρ st Q => ms W ρ st fun ds st1 => sp ds st1 Q W
theorem de_call {k : Nat} {f : Addr} {fd : FuncData} {ps : List Str} {sp : DSp} {x : Str} {p : Pos} {es : List Expr} {ms : MA}
    (F : FnOk X.prog X.w X.K X.mg X.base (CX X.prog X.w) k f fd ps (spOf X.prog X.w X.K sp)) (hr : Room k X.A) (hm : X.mg x = some (.ref f)) (hk : PySem.W.keepIn X.K (.ref f) = true) (hb : Binds X.K fd ps []) (hx : Passes (CX X.prog X.w) X E) (ha : DA X E (e :: es) ms) (hg : Gl X x := by rfl)
    (hdb : (x == ("__debug__" : Str)) = false := by decide) (he : starEach (e :: es) X.env = (false, eval e X.env) :: starEach es X.env := by rfl) (hpl : (backTo pos (starEach es X.env)).any (·.1) = false := by rfl) :
    DE X E (.Call (.Name x p) (e :: es) [] pos) (mCall sp ms) := by
  obtain ⟨t, pt, q⟩ := ha
  refine ⟨_, pe_call F hr hg hm hk hb .nil hx pt hdb he hpl, fun W ρ σ st H Qd Q S h k => ?_⟩
  refine q W ρ σ st H _ _ S h fun ds st1 vs H1 h1 r1 g1 s1 => ?_
  refine ⟨ds, st1, Qd, W, by rw [List.append_nil]; exact r1, g1, h1, fun d st' v H' a b c e => k d st' v H' a b c (s1.trans e), (S.step g1 s1).x⟩
theorem de_call0 {k : Nat} {f : Addr} {fd : FuncData} {ps : List Str} {sp : DSp} {x : Str} {p : Pos}
    (F : FnOk X.prog X.w X.K X.mg X.base (CX X.prog X.w) k f fd ps (spOf X.prog X.w X.K sp)) (hr : Room k X.A) (hm : X.mg x = some (.ref f)) (hk : PySem.W.keepIn X.K (.ref f) = true) (hb : Binds X.K fd ps []) (hx : Passes (CX X.prog X.w) X E) (hg : Gl X x := by rfl)
    (hdb : (x == ("__debug__" : Str)) = false := by decide) : DE X E (.Call (.Name x p) [] [] pos) (mCall sp aNil) := by
  refine ⟨_, pe_call0 F hr hg hm hk hb .nil hx hdb, fun W ρ σ st H Qd Q S h k => ?_⟩
  exact ⟨[], st, Qd, W, .nil, S.g, h, fun d st' v H' a b c e => k d st' v H' a b c e, S.x⟩
/-- an end that may forget what it made -/
def Rt (Q : DV → Sto → Prop) : DV → Sto → Prop := fun d st => ∃ st', Sub st' st ∧ Q d st'
def startD (N : List Str) (ds : List DV) : Rho := ds.map some ++ List.replicate (N.length - ds.length) none
theorem startR {K : PySem.W.Frag} {H : Hp} {N : List Str} {ds : List DV} {vs : List V} (h : DVs K H ds vs) : RhoR K H (startD N ds) (L2.start N vs) := by
  unfold startD L2.start
  refine ⟨by simp [h.length], fun i d e => ?_⟩
  by_cases hi : i < ds.length
  · rw [List.getElem?_append_left (by simpa using hi), List.getElem?_map] at e
    cases q : ds[i]? with
    | none => rw [q] at e; cases e
    | some x =>
      rw [q] at e
      have e' : x = d := by simpa using e
      subst e'
      obtain ⟨v, a, b⟩ := h.get q
      exact ⟨v, by rw [List.getElem?_append_left (by simp [← h.length, hi]), List.getElem?_map, a]; rfl, b⟩
  · rw [List.getElem?_append_right (by simpa using hi)] at e
    have := List.mem_of_getElem? e
    rw [List.mem_replicate] at this
    exact nomatch this.2
theorem fn_ok {P : Program} {w : World} {K : PySem.W.Frag} {mg : Str → Option Value} {base : Heap} {x qual : Str} {s : Stmt} {f : Addr} {fd : FuncData} {N ps : List Str} {k : Nat} {sp : DSp} {m : MS} (F : Fun K x qual s f fd) (S : FnScope N ps (defScope s))
    (hb : ∀ (cdv : Value) (A : Around) (outer : List PySem.Env) (s0 : Shared) (H : Hp) (E : XK), Room k (A.deeper (envOfC qual (defScope s) s0.heap.objs.size f cdv)) → DSs (cxOf (CX P w) P w K mg base N qual (defScope s) f cdv A outer s0 H E) E (defBody s) m)
    (hsp : ∀ ds st Qd W, sp ds st Qd W → ds.length = ps.length ∧ m W { nx := fun _ st' => Rt Qd .non st', rt := Rt Qd } (startD N ds) st) :
    FnOk P w K mg base (CX P w) (k + 1) f fd ps (spOf P w K sp) := by
  refine F.okX S (fun vs H Q E h => ?_) fun cdv A outer s0 H vs Q E hr h => ?_
  · obtain ⟨ds, st, Qd, W, a, b, c, _⟩ := h
    rw [← a.length]; exact (hsp ds st Qd W c).1
  · obtain ⟨ds, st, Qd, W, a, b, c, d, e⟩ := h
    obtain ⟨t, pt, q⟩ := hb cdv A outer s0 H E hr
    refine ⟨t, pt, q W (startD N ds) _ st H _ _ ⟨startR a, b, e⟩ (hsp ds st Qd W c).2 ⟨fun ρ σ st' H' h S s => ?_, fun x st' v H' h r g s => ?_, fun _ _ _ _ h => h.elim, fun _ _ _ _ h => h.elim⟩⟩
    · obtain ⟨st2, h2, h3⟩ := h
      exact d _ st2 _ _ h3 .non (S.g.sub h2) (s.sub h2)
    · obtain ⟨st2, h2, h3⟩ := h
      exact d _ st2 _ _ h3 r (g.sub h2) (s.sub h2)
end
end Sw

namespace Sw
open PySem PySem.Spec PyProof.Rows L2
/-! ### operations by values -/
/-- what stands at a as a list, to be read -/
def lstAt (st : Sto) (a : Addr) : Option (List DV) := match st a with
  | some (.lst ds) => some ds
  | some (.rol ds) => some ds
  | _ => none
theorem lstAt_sq {P : Program} {w : World} {K : PySem.W.Frag} {st : Sto} {H : Hp} {a : Addr} {ds : List DV} (g : Agr P w K st H) (h : lstAt st a = some ds) : ∃ xs, SqL K H a xs ∧ DVs K H ds xs := by
  unfold lstAt at h
  split at h
  · rename_i es q; cases h; obtain ⟨xs, e, z⟩ := g a _ q; exact ⟨xs, SqL.of e, z⟩
  · rename_i es q; cases h; obtain ⟨xs, e, z⟩ := g a _ q; exact ⟨xs, .inl e, z⟩
  · cases h
section
variable {X : Cx} {st st' : Sto} {H : Hp} {Qd : DV → Sto → Prop} {Q : VK}
/-- the same state -/
theorem Cn.at (k : Cn X st H Qd Q) (g : Agr X.prog X.w X.K st H) {d : DV} {v : V} (h : Qd d st) (r : DVr X.K H d v) : Q v H := k d st v H h r g (.refl _ _)
/-- a new list -/
theorem Cn.lst (k : Cn X st H Qd Q) (g : Agr X.prog X.w X.K st H) {ds : List DV} {vs : List V} (r : DVs X.K H ds vs) (h : ∀ p, st p = none → Qd (.ref p) (put st p (.lst ds))) : ∀ p, H p = none → Q (.ref p) (upd H p (.lst vs)) := fun p hp =>
  k _ _ _ _ (h p (g.free hp)) (.ref p) (g.new hp ⟨vs, upd_same, r.mono (tupX_new hp)⟩) (Stp.new hp)
/-- a new tuple -/
theorem Cn.tup (k : Cn X st H Qd Q) (g : Agr X.prog X.w X.K st H) {ds : List DV} {vs : List V} (r : DVs X.K H ds vs) (h : Qd (.tup ds) st) : ∀ p, H p = none → Q (.ref p) (upd H p (.tup vs)) := fun p hp =>
  k _ _ _ _ h (.tup (SqT.of upd_same) (r.mono (tupX_new hp))) (g.new0 hp) (Stp.new0 hp)
/-- a list changed -/
theorem Cn.setl (k : Cn X st H Qd Q) (g : Agr X.prog X.w X.K st H) {a : Addr} {ds ds0 : List DV} {vs : List V} {d : DV} {v : V} (e : st a = some (.lst ds0)) (r : DVs X.K H ds vs) (rd : DVr X.K H d v) (h : Qd d (put st a (.lst ds))) : Q v (upd H a (.lst vs)) := by
  have t : TupX X.K H (upd H a (.lst vs)) := tupX_upd fun xs z => by rw [g.not_tup z] at e; cases e
  exact k _ _ _ _ h (rd.mono t) (g.set e fun t => ⟨vs, upd_same, r.mono t⟩) (Stp.set e rfl)
end
section
variable {X : Cx}
def rAddU (K : PySem.W.Frag) : R2 := fun x y H Q => rI0 (fun i j => .int (i + j)) x y H Q ∨ (∃ i j, x = .str i ∧ y = .str j ∧ i.length + j.length ≤ sizeLine ∧ Q (.str (i ++ j)) H) ∨ rCatA K x y H Q ∨ rCat x y H Q
theorem op_addU : OpR X (binaryOp .Add) (rAddU X.K) := op_add.or (op_add_str.or (op_catA.or op_cat))
def addD : D2 := fun x y st Q => match x, y with
  | .int i, .int j => Q (.int (i + j)) st
  | .str i, .str j => i.length + j.length ≤ sizeLine ∧ Q (.str (i ++ j)) st
  | .tup a, .tup b => a.length + b.length ≤ sizeLine ∧ Q (.tup (a ++ b)) st
  | .ref a, .ref b => match st a, st b with
    | some (.lst xs), some (.lst ys) => xs.length + ys.length ≤ sizeLine ∧ ∀ p, st p = none → Q (.ref p) (put st p (.lst (xs ++ ys)))
    | _, _ => False
  | _, _ => False
theorem dop_add : DOp X (rAddU X.K) addD := by
  intro x y vx vy st H Qd Q g rx ry h k
  cases rx <;> cases ry <;> try exact h.elim
  · exact .inl ⟨_, _, rfl, rfl, k.at g h (.int _)⟩
  · exact .inr (.inl ⟨_, _, rfl, rfl, h.1, k.at g h.2 (.str _)⟩)
  · rename_i a xs ds hq hs b ys es hq2 hs2
    have l1 := hs.length
    have l2 := hs2.length
    refine .inr (.inr (.inl ⟨a, b, xs, ys, rfl, rfl, hq, hq2, (by have := h.1; omega), fun e => ?_, fun _ e => ?_, fun _ _ => k.tup g (hs.append hs2) h.2⟩))
    · subst e
      have : ds = [] := List.length_eq_zero_iff.mp (by simpa using l1)
      subst this
      exact k.at g h.2 (.tup hq2 hs2)
    · subst e
      have : es = [] := List.length_eq_zero_iff.mp (by simpa using l2)
      subst this
      exact k.at g h.2 (by rw [List.append_nil]; exact .tup hq hs)
  · rename_i a b
    simp only [addD] at h
    split at h
    · rename_i xs ys e1 e2
      obtain ⟨us, f1, z1⟩ := g a _ e1
      obtain ⟨ws, f2, z2⟩ := g b _ e2
      have l1 := z1.length
      have l2 := z2.length
      exact .inr (.inr (.inr ⟨a, b, us, ws, rfl, rfl, f1, f2, by omega, k.lst g (z1.append z2) h.2⟩))
    · exact h.elim
def subD : D2 := fun x y st Q => match x, y with | .int i, .int j => Q (.int (i - j)) st | _, _ => False
theorem dop_sub : DOp X (rI0 fun i j => .int (i - j)) subD := by
  intro x y vx vy st H Qd Q g rx ry h k
  cases rx <;> cases ry <;> first | exact h.elim | exact ⟨_, _, rfl, rfl, k.at g h (.int _)⟩
def rMulU : R2 := fun x y H Q => rI CMul (fun i j => .int (i * j)) x y H Q ∨ rRep x y H Q
theorem op_mulU : OpR X (binaryOp .Mult) rMulU := op_mul.or op_rep
theorem DVs.rep {K : PySem.W.Frag} {H : Hp} {ds : List DV} {vs : List V} (h : DVs K H ds vs) : ∀ n : Nat, DVs K H (List.replicate n ds).flatten (List.replicate n vs).flatten
  | 0 => .nil
  | n + 1 => by rw [List.replicate_succ, List.replicate_succ, List.flatten_cons, List.flatten_cons]; exact h.append (DVs.rep h n)
def mulD : D2 := fun x y st Q => match x, y with
  | .int i, .int j => CMul i j ∧ Q (.int (i * j)) st
  | .ref a, .int k => match st a with
    | some (.lst xs) => (-(2 ^ 63) ≤ k ∧ k < 2 ^ 63 ∧ xs.length * k.toNat ≤ sizeLine) ∧ ∀ p, st p = none → Q (.ref p) (put st p (.lst (List.replicate k.toNat xs).flatten))
    | _ => False
  | _, _ => False
theorem dop_mul : DOp X rMulU mulD := by
  intro x y vx vy st H Qd Q g rx ry h k
  cases rx <;> cases ry <;> try exact h.elim
  · exact .inl ⟨_, _, rfl, rfl, h.1, k.at g h.2 (.int _)⟩
  · rename_i a i
    simp only [mulD] at h
    split at h
    · rename_i xs e1
      obtain ⟨us, f1, z1⟩ := g a _ e1
      exact .inr ⟨a, _, us, rfl, rfl, f1, h.1.1, h.1.2.1, by rw [← z1.length]; exact h.1.2.2, k.lst g (z1.rep _) h.2⟩
    · exact h.elim
def modD : D2 := fun x y st Q => match x, y with | .int i, .int j => 0 < j ∧ Q (.int (i % j)) st | _, _ => False
theorem dop_mod : DOp X (rI (fun _ j => 0 < j) fun i j => .int (i % j)) modD := by
  intro x y vx vy st H Qd Q g rx ry h k
  cases rx <;> cases ry <;> first | exact h.elim | exact ⟨_, _, rfl, rfl, h.1, k.at g h.2 (.int _)⟩
def fdivD : D2 := fun x y st Q => match x, y with | .int i, .int j => CDiv i j ∧ Q (.int (i / j)) st | _, _ => False
theorem dop_fdiv : DOp X (rI CDiv fun i j => .int (i / j)) fdivD := by
  intro x y vx vy st H Qd Q g rx ry h k
  cases rx <;> cases ry <;> first | exact h.elim | exact ⟨_, _, rfl, rfl, h.1, k.at g h.2 (.int _)⟩
def powD : D2 := fun x y st Q => match x, y with | .int i, .int j => CPow i j ∧ Q (.int (i ^ j.toNat)) st | _, _ => False
theorem dop_pow : DOp X (rI CPow fun i j => .int (i ^ j.toNat)) powD := by
  intro x y vx vy st H Qd Q g rx ry h k
  cases rx <;> cases ry <;> first | exact h.elim | exact ⟨_, _, rfl, rfl, h.1, k.at g h.2 (.int _)⟩
/-! ### order -/
def cmpD (f : Int → Int → Bool) : D2 := fun x y st Q => match x, y with | .int i, .int j => Q (.bl (f i j)) st | _, _ => False
theorem dop_cmp (f : Int → Int → Bool) : DOp X (rI0 fun i j => .bl (f i j)) (cmpD f) := by
  intro x y vx vy st H Qd Q g rx ry h k
  cases rx <;> cases ry <;> first | exact h.elim | exact ⟨_, _, rfl, rfl, k.at g h (.bl _)⟩
/-- a tuple of numbers -/
def intsOf : List DV → Option (List Int)
  | [] => some []
  | .int i :: r => (intsOf r).map (i :: ·)
  | _ :: _ => none
theorem intsOf_eq : ∀ {ds : List DV} {ns : List Int}, intsOf ds = some ns → ds = ns.map DV.int
  | [], ns, h => by cases h; rfl
  | .int i :: r, ns, h => by
    unfold intsOf at h
    cases q : intsOf r with
    | none => rw [q] at h; cases h
    | some ms => rw [q] at h; cases h; rw [intsOf_eq q]; rfl
  | .non :: _, _, h => by cases h
  | .bl _ :: _, _, h => by cases h
  | .str _ :: _, _, h => by cases h
  | .tup _ :: _, _, h => by cases h
  | .ref _ :: _, _, h => by cases h
theorem intsOf_map (ns : List Int) : intsOf (ns.map DV.int) = some ns := by
  induction ns with
  | nil => rfl
  | cons n ns ih => simp [intsOf, ih]
def rLtU (K : PySem.W.Frag) : R2 := fun x y H Q => rI0 (fun i j => .bl (decide (i < j))) x y H Q ∨ rLtT K x y H Q
theorem op_ltU (hu : X.A.units < cLine) : OpR X (compareOp .Lt) (rLtU X.K) := op_lt.or (op_ltT hu)
def ltD : D2 := fun x y st Q => match x, y with
  | .int i, .int j => Q (.bl (decide (i < j))) st
  | .tup a, .tup b => match intsOf a, intsOf b with
    | some ns, some ms => Q (.bl (HT.lexLt ns ms)) st
    | _, _ => False
  | _, _ => False
theorem dop_lt : DOp X (rLtU X.K) ltD := by
  intro x y vx vy st H Qd Q g rx ry h k
  cases rx <;> cases ry <;> try exact h.elim
  · exact .inl ⟨_, _, rfl, rfl, k.at g h (.bl _)⟩
  · rename_i a xs ds hq hs b ys es hq2 hs2
    simp only [ltD] at h
    split at h
    · rename_i ns ms e1 e2
      have f1 := intsOf_eq e1
      have f2 := intsOf_eq e2
      subst f1 f2
      rw [hs.ints] at hq
      rw [hs2.ints] at hq2
      exact .inr ⟨a, b, ns, ms, rfl, rfl, hq, hq2, k.at g h (.bl _)⟩
    · exact h.elim
/-! ### None -/
def isNonD : D2 := fun x y st Q => match y with
  | .non => (match x with | .non => Q (.bl true) st | _ => Q (.bl false) st)
  | _ => False
theorem dop_isN : DOp X (fun x y H Q => y = .non ∧ Q (.bl (decide (x = .non))) H) isNonD := by
  intro x y vx vy st H Qd Q g rx ry h k
  cases ry <;> try exact h.elim
  refine ⟨rfl, ?_⟩
  cases rx <;> exact k.at g h (.bl _)
def notNonD : D2 := fun x y st Q => match y with
  | .non => (match x with | .non => Q (.bl false) st | _ => Q (.bl true) st)
  | _ => False
theorem dop_notN : DOp X (fun x y H Q => y = .non ∧ Q (.bl (!decide (x = .non))) H) notNonD := by
  intro x y vx vy st H Qd Q g rx ry h k
  cases ry <;> try exact h.elim
  refine ⟨rfl, ?_⟩
  cases rx <;> exact k.at g h (.bl _)
/-! ### ==: data -/
mutual
inductive Dat (st : Sto) : DV → PyData → Prop
  | non : Dat st .non .none
  | bl (b : Bool) : Dat st (.bl b) (.bool b)
  | int (i : Int) : Dat st (.int i) (.int i)
  | str (x : Str) : Dat st (.str x) (.str x)
  | tup {ds : List DV} {es : List PyData} : Dats st ds es → Dat st (.tup ds) (.tuple es)
  | lst {a : Addr} {ds : List DV} {es : List PyData} : lstAt st a = some ds → Dats st ds es → Dat st (.ref a) (.list es)
inductive Dats (st : Sto) : List DV → List PyData → Prop
  | nil : Dats st [] []
  | cons {d : DV} {e : PyData} {ds : List DV} {es : List PyData} : Dat st d e → Dats st ds es → Dats st (d :: ds) (e :: es)
end
mutual
theorem Dat.dp {P : Program} {w : World} {K : PySem.W.Frag} {st : Sto} {H : Hp} (g : Agr P w K st H) : ∀ {d : DV} {v : V} {e : PyData}, DVr K H d v → Dat st d e → Dp K H v e
  | _, _, _, .non, .non => .non
  | _, _, _, .bl b, .bl _ => .bl b
  | _, _, _, .int i, .int _ => .int i
  | _, _, _, .str i, .str _ => .str i
  | _, _, _, .tup hq hs, .tup z => .tup hq (Dats.dp g hs z)
  | _, _, _, .ref a, .lst e z => by
    obtain ⟨xs, hq, hs⟩ := lstAt_sq g e
    exact .lst hq (Dats.dp g hs z)
theorem Dats.dp {P : Program} {w : World} {K : PySem.W.Frag} {st : Sto} {H : Hp} (g : Agr P w K st H) : ∀ {ds : List DV} {vs : List V} {es : List PyData}, DVs K H ds vs → Dats st ds es → DpAll K H vs es
  | _, _, _, .nil, .nil => .nil
  | _, _, _, .cons r rs, .cons z zs => .cons (Dat.dp g r z) (Dats.dp g rs zs)
end
/-- x == y is b -/
def EqIs (st : Sto) (x y : DV) (b : Bool) : Prop := ∃ d e, Dat st x d ∧ Dat st y e ∧ SeqAt.shaped d = true ∧ SeqAt.shaped e = true ∧ PyData.eqv d e = b
def rEqU (K : PySem.W.Frag) : R2 := fun x y H Q => rEq x y H Q ∨ rEqD K x y H Q
def rNeU (K : PySem.W.Frag) : R2 := fun x y H Q => rNe x y H Q ∨ rNeD K x y H Q
theorem op_eqU (hu : X.A.units + 64 < cLine) : OpR X (compareOp .Eq) (rEqU X.K) := op_eq.or (op_eqD hu)
theorem op_neU (hu : X.A.units + 64 < cLine) : OpR X (compareOp .NotEq) (rNeU X.K) := op_ne.or (op_neD hu)
def eqD : D2 := fun x y st Q => match x, y with
  | .int i, .int j => Q (.bl (decide (i = j))) st
  | .str i, .str j => Q (.bl (decide (i = j))) st
  | .bl i, .bl j => Q (.bl (decide (i = j))) st
  | .non, .non => Q (.bl true) st
  | .non, .int _ | .non, .str _ | .non, .bl _ | .int _, .non | .str _, .non | .bl _, .non | .int _, .str _ | .str _, .int _ | .bl _, .str _ | .str _, .bl _ => Q (.bl false) st
  | x, y => ∃ b, EqIs st x y b ∧ Q (.bl b) st
def neD : D2 := fun x y st Q => match x, y with
  | .int i, .int j => Q (.bl (!decide (i = j))) st
  | .str i, .str j => Q (.bl (!decide (i = j))) st
  | .bl i, .bl j => Q (.bl (!decide (i = j))) st
  | .non, .non => Q (.bl false) st
  | .non, .int _ | .non, .str _ | .non, .bl _ | .int _, .non | .str _, .non | .bl _, .non | .int _, .str _ | .str _, .int _ | .bl _, .str _ | .str _, .bl _ => Q (.bl true) st
  | x, y => ∃ b, EqIs st x y b ∧ Q (.bl (!b)) st
theorem eq_data {X : Cx} {x y : DV} {vx vy : V} {st : Sto} {H : Hp} {Qd : DV → Sto → Prop} {Q : VK} (g : Agr X.prog X.w X.K st H) (rx : DVr X.K H x vx) (ry : DVr X.K H y vy) (h : ∃ b, EqIs st x y b ∧ Qd (.bl b) st) (k : Cn X st H Qd Q) : rEqD X.K vx vy H Q := by
  obtain ⟨b, ⟨d, e, a1, a2, s1, s2, rfl⟩, h⟩ := h
  exact ⟨d, e, a1.dp g rx, a2.dp g ry, s1, s2, k.at g h (.bl _)⟩
theorem ne_data {X : Cx} {x y : DV} {vx vy : V} {st : Sto} {H : Hp} {Qd : DV → Sto → Prop} {Q : VK} (g : Agr X.prog X.w X.K st H) (rx : DVr X.K H x vx) (ry : DVr X.K H y vy) (h : ∃ b, EqIs st x y b ∧ Qd (.bl (!b)) st) (k : Cn X st H Qd Q) : rNeD X.K vx vy H Q := by
  obtain ⟨b, ⟨d, e, a1, a2, s1, s2, rfl⟩, h⟩ := h
  exact ⟨d, e, a1.dp g rx, a2.dp g ry, s1, s2, k.at g h (.bl _)⟩
theorem dop_eq : DOp X (rEqU X.K) eqD := by
  intro x y vx vy st H Qd Q g rx ry h k
  cases rx <;> cases ry
  all_goals first
    | exact .inr (eq_data g (by constructor <;> assumption) (by constructor <;> assumption) h k)
    | (refine .inl ⟨rfl, k.at g ?_ (.bl _)⟩; simpa [eqD] using h)
theorem dop_ne : DOp X (rNeU X.K) neD := by
  intro x y vx vy st H Qd Q g rx ry h k
  cases rx <;> cases ry
  all_goals first
    | exact .inr (ne_data g (by constructor <;> assumption) (by constructor <;> assumption) h k)
    | (refine .inl ⟨rfl, k.at g ?_ (.bl _)⟩; simpa [neD] using h)
end
end Sw

namespace Sw
open PySem PySem.Spec PyProof.Rows L2
section
variable {X : Cx} {E : XK} {a b c e : Expr} {ma mb mc me : ME} {pos : Pos}
/-! ### subscripts -/
theorem DVs.atI {K : PySem.W.Frag} {H : Hp} {ds : List DV} {vs : List V} (h : DVs K H ds vs) {i : Int} {d : DV} (e : L2.atI ds i = some d) : ∃ v, L2.atI vs i = some v ∧ DVr K H d v := by
  unfold L2.atI at e ⊢
  rw [← h.length]
  cases q : ixN ds.length i with
  | none => rw [q] at e; cases e
  | some j => rw [q] at e; exact h.get e
def ixD : D2 := fun x y st Q => match x, y with
  | .ref a, .int i => match lstAt st a with
    | some ds => (match L2.atI ds i with | some d => Q d st | none => False)
    | none => False
  | .tup ds, .int i => (match L2.atI ds i with | some d => Q d st | none => False)
  | .str z, .int i => z.length ≤ sizeLine ∧ (match L2.atI z.cps.toList i with | some c => Q (.str ⟨#[c]⟩) st | none => False)
  | _, _ => False
theorem dop_ix : DOp X (rIx X.K) ixD := by
  intro x y vx vy st H Qd Q g rx ry h k
  cases rx <;> cases ry <;> try exact h.elim
  · rename_i z i
    simp only [ixD] at h
    obtain ⟨h0, h⟩ := h
    split at h
    · rename_i c q; exact .inr (.inr ⟨z, i, c, rfl, rfl, h0, q, k.at g h (.str _)⟩)
    · exact h.elim
  · rename_i a xs ds hq hs i
    simp only [ixD] at h
    split at h
    · rename_i d q
      obtain ⟨v, e1, r1⟩ := hs.atI q
      exact .inr (.inl ⟨a, xs, i, v, rfl, rfl, hq, e1, k.at g h r1⟩)
    · exact h.elim
  · rename_i a i
    simp only [ixD] at h
    split at h
    · rename_i ds q
      obtain ⟨xs, hq, hs⟩ := lstAt_sq g q
      split at h
      · rename_i d q2
        obtain ⟨v, e1, r1⟩ := hs.atI q2
        exact .inl ⟨a, xs, i, v, rfl, rfl, hq, e1, k.at g h r1⟩
      · exact h.elim
    · exact h.elim
theorem de_ix (ha : DE X E a ma) (hb : DE X E b mb) (hs : PlainIx b) : DE X E (.Subscript a b pos) (mOp ixD ma mb) := de_two (t := fun _ _ _ => True) dop_ix ha hb fun _ _ pa pb => pe_ix ix_seq pa pb hs
def cutD (ds : List DV) (lo hi : Option Int) : List DV := (ds.drop (HT.sIx ds.length 0 lo)).take (HT.sIx ds.length ds.length hi - HT.sIx ds.length 0 lo)
theorem DVs.cut {K : PySem.W.Frag} {H : Hp} {ds : List DV} {vs : List V} (h : DVs K H ds vs) (lo hi : Option Int) : DVs K H (cutD ds lo hi) (cutV vs lo hi) := by
  unfold cutD cutV; rw [← h.length]; exact (h.drop _).take _
theorem cutD_from (ds : List DV) (k : Nat) : cutD ds (some (k : Int)) none = ds.drop k := by
  unfold cutD
  rw [HT.sIx_none, HT.sIx_nat]
  rcases Nat.le_total k ds.length with h | h
  · rw [Nat.min_eq_left h]; exact List.take_of_length_le (by rw [List.length_drop]; exact Nat.le_refl _)
  · rw [Nat.min_eq_right h, List.drop_length, List.drop_eq_nil_of_le h]; simp
theorem cutD_to (ds : List DV) (k : Nat) : cutD ds none (some (k : Int)) = ds.take k := by
  unfold cutD
  rw [HT.sIx_none, HT.sIx_nat]
  simp only [List.drop_zero, Nat.sub_zero]
  rcases Nat.le_total k ds.length with h | h
  · rw [Nat.min_eq_left h]
  · rw [Nat.min_eq_right h, List.take_length, List.take_of_length_le h]
theorem cutD_whole (ds : List DV) (lo hi : Option Int) (h : HT.sIx ds.length 0 lo = 0 ∧ HT.sIx ds.length ds.length hi = ds.length) : cutD ds lo hi = ds := by
  unfold cutD; rw [h.1, h.2]; simp
def rSlU (K : PySem.W.Frag) : V → Option Int → Option Int → Hp → VK → Prop := fun x lo hi H Q => rSlL K x lo hi H Q ∨ rSlA K x lo hi H Q ∨ rSlS x lo hi H Q
theorem sl_U : SlR X (rSlU X.K) := sl_list.or (sl_tupA.or sl_str)
def slD : D3 := fun x lo hi st Q => match x with
  | .ref a => match lstAt st a with
    | some ds => ∀ p, st p = none → Q (.ref p) (put st p (.lst (cutD ds lo hi)))
    | none => False
  | .tup ds => Q (.tup (cutD ds lo hi)) st
  | .str z => z.length ≤ sizeLine ∧ Q (.str (cutS z lo hi)) st
  | _ => False
theorem dsl_U : DSl X (rSlU X.K) slD := by
  intro x lo hi v st H Qd Q g rx h k
  cases rx <;> try exact h.elim
  · exact .inr (.inr ⟨_, rfl, h.1, k.at g h.2 (.str _)⟩)
  · rename_i a xs ds hq hs
    refine .inr (.inl ⟨a, xs, rfl, hq, fun hw => ?_, fun _ => k.tup g (hs.cut lo hi) h⟩)
    rw [← hs.length] at hw
    exact k.at g h (by rw [cutD_whole ds lo hi hw]; exact .tup hq hs)
  · rename_i a
    simp only [slD] at h
    split at h
    · rename_i ds q
      obtain ⟨xs, hq, hs⟩ := lstAt_sq g q
      exact .inl ⟨a, xs, rfl, hq, k.lst g (hs.cut lo hi) h⟩
    · exact h.elim
/-! ### in -/
/-- flat things -/
def flatD : DV → Option V
  | .non => some .non
  | .bl b => some (.bl b)
  | .int i => some (.int i)
  | .str x => some (.str x)
  | _ => none
theorem flatD_of {K : PySem.W.Frag} {H : Hp} {d : DV} {v u : V} (r : DVr K H d v) (h : flatD d = some u) : v = u ∧ flatV v = true := by
  cases r <;> cases h <;> exact ⟨rfl, rfl⟩
def flatsD : List DV → Option (List V)
  | [] => some []
  | d :: r => match flatD d, flatsD r with
    | some v, some vs => some (v :: vs)
    | _, _ => none
theorem flatsD_of {K : PySem.W.Frag} {H : Hp} : ∀ {ds : List DV} {vs us : List V}, DVs K H ds vs → flatsD ds = some us → vs = us ∧ vs.all flatV = true
  | [], _, _, .nil, h => by cases h; exact ⟨rfl, rfl⟩
  | d :: r, _, us, .cons r1 rs, h => by
    unfold flatsD at h
    split at h
    · rename_i v vs e1 e2
      cases h
      obtain ⟨a1, a2⟩ := flatD_of r1 e1
      obtain ⟨b1, b2⟩ := flatsD_of rs e2
      exact ⟨by rw [a1, b1], by rw [List.all_cons, a2, b2]; rfl⟩
    · cases h
/-- x is in the list ds of data: told by b -/
def InIs (st : Sto) (x : DV) (ds : List DV) (b : Bool) : Prop := ∃ d es, Dat st x d ∧ Dats st ds es ∧ SeqAt.shaped d = true ∧ SeqAt.shaped (.list es) = true ∧ (es.any fun z => PyData.eqv z d) = b
def rInU (K : PySem.W.Frag) : R2 := fun x y H Q => rIn K false x y H Q ∨ rInD K x y H Q ∨ (∃ c z, x = .str ⟨#[c]⟩ ∧ y = .str z ∧ Q (.bl (decide (c ∈ z.cps.toList))) H)
theorem op_inU (hu : X.A.units + 65 < cLine) : OpR X (compareOp .In) (rInU X.K) := op_in_seq.or ((op_inD hu).or op_in_sign)
def inD (neg : Bool) : D2 := fun x y st Q => match y with
  | .tup ds => (match flatD x, flatsD ds with | some v, some vs => Q (.bl (neg ^^ inV v vs)) st | _, _ => False)
  | .ref a => (match lstAt st a with
    | some ds => (match flatD x, flatsD ds with | some v, some vs => Q (.bl (neg ^^ inV v vs)) st | _, _ => ∃ b, InIs st x ds b ∧ Q (.bl (neg ^^ b)) st)
    | none => False)
  | .str z => (match x with | .str c => (match c.cps.toList with | [k] => Q (.bl (neg ^^ decide (k ∈ z.cps.toList))) st | _ => False) | _ => False)
  | _ => False
theorem dop_in : DOp X (rInU X.K) (inD false) := by
  intro x y vx vy st H Qd Q g rx ry h k
  cases ry <;> try exact h.elim
  · rename_i z
    simp only [inD] at h
    split at h
    · rename_i c
      split at h
      · rename_i q e
        cases rx
        refine .inr (.inr ⟨q, z, ?_, rfl, k.at g (by simpa using h) (.bl _)⟩)
        have : c = ⟨#[q]⟩ := by cases c; rename_i cs; simp only at e; congr 1; exact Array.ext' (by simpa using e)
        rw [this]
      · exact h.elim
    · exact h.elim
  · rename_i a xs ds hq hs
    simp only [inD] at h
    split at h
    · rename_i v vs e1 e2
      obtain ⟨a1, a2⟩ := flatD_of rx e1
      obtain ⟨b1, b2⟩ := flatsD_of hs e2
      subst a1 b1
      exact .inl ⟨a, _, rfl, .inr hq, a2, b2, k.at g (by simpa using h) (.bl _)⟩
    · exact h.elim
  · rename_i a
    simp only [inD] at h
    split at h
    · rename_i ds q
      obtain ⟨xs, hq, hs⟩ := lstAt_sq g q
      split at h
      · rename_i v vs e1 e2
        obtain ⟨a1, a2⟩ := flatD_of rx e1
        obtain ⟨b1, b2⟩ := flatsD_of hs e2
        subst a1 b1
        exact .inl ⟨a, _, rfl, .inl hq, a2, b2, k.at g (by simpa using h) (.bl _)⟩
      · obtain ⟨z, ⟨d, es, h1, h2, h3, h4, rfl⟩, h5⟩ := h
        exact .inr (.inl ⟨d, es, h1.dp g rx, .lst hq (h2.dp g hs), h3, h4, k.at g (by simpa using h5) (.bl _)⟩)
    · exact h.elim
/-! ### calls of built-ins -/
def lenD : DC := fun ds st Q => match ds with
  | [.ref a] => (match lstAt st a with | some xs => Q (.int xs.length) st | none => False)
  | [.tup xs] => Q (.int xs.length) st
  | [.str z] => z.length ≤ sizeLine ∧ Q (.int z.length) st
  | _ => False
theorem dc_len : DCal X (fun xs H Q => ∃ x n, xs = [x] ∧ LenV X.K x H n ∧ Q (.int n) H) lenD := by
  intro ds vs st H Qd Q g r h k
  cases r with
  | nil => exact h.elim
  | cons r rs =>
    cases rs with
    | cons _ _ => cases r <;> exact h.elim
    | nil =>
      cases r <;> try exact h.elim
      · exact ⟨_, _, rfl, ⟨h.1, rfl⟩, k.at g h.2 (.int _)⟩
      · rename_i a xs es hq hs
        exact ⟨_, es.length, rfl, .inr ⟨xs, hq, hs.length⟩, k.at g h (.int _)⟩
      · rename_i a
        simp only [lenD] at h
        split at h
        · rename_i es q
          obtain ⟨xs, hq, hs⟩ := lstAt_sq g q
          exact ⟨_, es.length, rfl, .inl ⟨xs, hq, hs.length⟩, k.at g h (.int _)⟩
        · exact h.elim
/-- list(x), tuple(x) -/
def listD : DC := fun ds st Q => match ds with
  | [.ref a] => (match lstAt st a with | some xs => ∀ p, st p = none → Q (.ref p) (put st p (.lst xs)) | none => False)
  | [.tup xs] => ∀ p, st p = none → Q (.ref p) (put st p (.lst xs))
  | _ => False
theorem dc_list : DCal X (fun xs H Q => ∃ p ys, xs = [.ref p] ∧ (SqL X.K H p ys ∨ SqT X.K H p ys) ∧ ∀ l, H l = none → Q (.ref l) (upd H l (.lst ys))) listD := by
  intro ds vs st H Qd Q g r h k
  cases r with
  | nil => exact h.elim
  | cons r rs =>
    cases rs with
    | cons _ _ => cases r <;> exact h.elim
    | nil =>
      cases r <;> try exact h.elim
      · rename_i a xs es hq hs
        exact ⟨a, xs, rfl, .inr hq, k.lst g hs h⟩
      · rename_i a
        simp only [listD] at h
        split at h
        · rename_i es q
          obtain ⟨xs, hq, hs⟩ := lstAt_sq g q
          exact ⟨a, xs, rfl, .inl hq, k.lst g hs h⟩
        · exact h.elim
def tupleD : DC := fun ds st Q => match ds with
  | [.ref a] => (match lstAt st a with | some xs => Q (.tup xs) st | none => False)
  | [.tup xs] => Q (.tup xs) st
  | _ => False
theorem dc_tuple : DCal X (fun xs H Q => ∃ p ys, xs = [.ref p] ∧ ((SqL X.K H p ys ∧ ∀ l, H l = none → Q (.ref l) (upd H l (.tup ys))) ∨ (SqT X.K H p ys ∧ Q (.ref p) H))) tupleD := by
  intro ds vs st H Qd Q g r h k
  cases r with
  | nil => exact h.elim
  | cons r rs =>
    cases rs with
    | cons _ _ => cases r <;> exact h.elim
    | nil =>
      cases r <;> try exact h.elim
      · rename_i a xs es hq hs
        exact ⟨a, xs, rfl, .inr ⟨hq, k.at g h (.tup hq hs)⟩⟩
      · rename_i a
        simp only [tupleD] at h
        split at h
        · rename_i es q
          obtain ⟨xs, hq, hs⟩ := lstAt_sq g q
          exact ⟨a, xs, rfl, .inl ⟨hq, k.tup g hs h⟩⟩
        · exact h.elim
def min2D : DC := fun ds st Q => match ds with | [.int i, .int j] => Q (.int (if j < i then j else i)) st | _ => False
theorem dc_min2 : DCal X (fun xs H Q => ∃ i j, xs = [.int i, .int j] ∧ Q (.int (if j < i then j else i)) H) min2D := by
  intro ds vs st H Qd Q g r h k
  cases r with
  | nil => exact h.elim
  | cons r rs =>
    cases rs with
    | nil => cases r <;> exact h.elim
    | cons r2 rs =>
      cases rs with
      | cons _ _ => cases r <;> cases r2 <;> exact h.elim
      | nil => cases r <;> cases r2 <;> first | exact h.elim | exact ⟨_, _, rfl, k.at g h (.int _)⟩
def max2D : DC := fun ds st Q => match ds with | [.int i, .int j] => Q (.int (if j > i then j else i)) st | _ => False
theorem dc_max2 : DCal X (fun xs H Q => ∃ i j, xs = [.int i, .int j] ∧ Q (.int (if j > i then j else i)) H) max2D := by
  intro ds vs st H Qd Q g r h k
  cases r with
  | nil => exact h.elim
  | cons r rs =>
    cases rs with
    | nil => cases r <;> exact h.elim
    | cons r2 rs =>
      cases rs with
      | cons _ _ => cases r <;> cases r2 <;> exact h.elim
      | nil => cases r <;> cases r2 <;> first | exact h.elim | exact ⟨_, _, rfl, k.at g h (.int _)⟩
def intD : DC := fun ds st Q => match ds with | [.int i] => Q (.int i) st | [.bl b] => Q (.int (if b then 1 else 0)) st | _ => False
theorem dc_int : DCal X (fun xs H Q => (∃ i, xs = [.int i] ∧ Q (.int i) H) ∨ ∃ k, xs = [.bl k] ∧ Q (.int (if k then 1 else 0)) H) intD := by
  intro ds vs st H Qd Q g r h k
  cases r with
  | nil => exact h.elim
  | cons r rs =>
    cases rs with
    | cons _ _ => cases r <;> exact h.elim
    | nil =>
      cases r <;> try exact h.elim
      · exact .inr ⟨_, rfl, k.at g h (.int _)⟩
      · exact .inl ⟨_, rfl, k.at g h (.int _)⟩
def blsOf : List DV → Option (List Bool)
  | [] => some []
  | .bl i :: r => (blsOf r).map (i :: ·)
  | _ :: _ => none
theorem blsOf_of {K : PySem.W.Frag} {H : Hp} : ∀ {ds : List DV} {bs : List Bool} {vs : List V}, blsOf ds = some bs → DVs K H ds vs → vs = bs.map V.bl
  | [], bs, _, h, .nil => by cases h; rfl
  | .bl i :: r, bs, _, h, .cons r1 rs => by
    unfold blsOf at h
    cases q : blsOf r with
    | none => rw [q] at h; cases h
    | some ms => rw [q] at h; cases h; cases r1; rw [blsOf_of q rs]; rfl
  | .non :: _, _, _, h, _ => by cases h
  | .int _ :: _, _, _, h, _ => by cases h
  | .str _ :: _, _, _, h, _ => by cases h
  | .tup _ :: _, _, _, h, _ => by cases h
  | .ref _ :: _, _, _, h, _ => by cases h
theorem blsOf_map (bs : List Bool) : blsOf (bs.map DV.bl) = some bs := by
  induction bs with
  | nil => rfl
  | cons n ns ih => simp [blsOf, ih]
def boolsD (f : List Bool → Bool) : DC := fun ds st Q => match ds with
  | [.ref a] => (match lstAt st a with | some xs => (match blsOf xs with | some bs => Q (.bl (f bs)) st | none => False) | none => False)
  | _ => False
theorem dc_bools (f : List Bool → Bool) : DCal X (fun vs H Q => ∃ (a : Addr) (bs : List Bool), vs = [V.ref a] ∧ SqL X.K H a (bs.map V.bl) ∧ Q (.bl (f bs)) H) (boolsD f) := by
  intro ds vs st H Qd Q g r h k
  cases r with
  | nil => exact h.elim
  | cons r rs =>
    cases rs with
    | cons _ _ => cases r <;> exact h.elim
    | nil =>
      cases r <;> try exact h.elim
      rename_i a
      simp only [boolsD] at h
      split at h
      · rename_i es q
        obtain ⟨xs, hq, hs⟩ := lstAt_sq g q
        split at h
        · rename_i bs e
          rw [blsOf_of e hs] at hq
          exact ⟨a, bs, rfl, hq, k.at g h (.bl _)⟩
        · exact h.elim
      · exact h.elim
/-! ### methods of lists -/
def isLst (x : DV) (st : Sto) : Prop := match x with | .ref a => (match st a with | some (.lst _) => True | some (.rol _) => True | _ => False) | _ => False
theorem dty_list : DTy X "list" isLst := by
  intro x v st H g r h
  cases r <;> try exact h.elim
  rename_i a
  simp only [isLst] at h
  split at h
  · rename_i ds q; obtain ⟨xs, e, _⟩ := g a _ q; exact .inl ⟨rfl, xs, SqL.of e⟩
  · rename_i ds q; obtain ⟨xs, e, _⟩ := g a _ q; exact .inl ⟨rfl, xs, .inl e⟩
  · exact h.elim
def appendD : DM := fun x ds st Q => match x, ds with
  | .ref a, [d] => (match st a with | some (.lst xs) => xs.length < sizeLine ∧ Q .non (put st a (.lst (xs ++ [d]))) | _ => False)
  | _, _ => False
theorem dm_append : DMet X "list" rAppend appendD := by
  intro x ds v vs st H Qd Q g rx rs h k
  cases rx <;> try (cases rs <;> exact h.elim)
  rename_i a
  cases rs with
  | nil => exact h.elim
  | cons r rs =>
    cases rs with
    | cons _ _ => exact h.elim
    | nil =>
      simp only [appendD] at h
      split at h
      · rename_i xs q
        obtain ⟨us, e, z⟩ := g a _ q
        exact ⟨a, us, _, rfl, rfl, e, by rw [← z.length]; exact h.1, k.setl g q (z.append (.cons r .nil)) .non h.2⟩
      · exact h.elim
def extendD : DM := fun x ds st Q => match x, ds with
  | .ref a, [.ref b] => (match st a, st b with | some (.lst xs), some (.lst ys) => xs.length + ys.length ≤ sizeLine ∧ Q .non (put st a (.lst (xs ++ ys))) | _, _ => False)
  | _, _ => False
theorem dm_extend : DMet X "list" rExtend extendD := by
  intro x ds v vs st H Qd Q g rx rs h k
  cases rx <;> try (cases rs <;> exact h.elim)
  rename_i a
  cases rs with
  | nil => exact h.elim
  | cons r rs =>
    cases rs with
    | cons _ _ => cases r <;> exact h.elim
    | nil =>
      cases r <;> try exact h.elim
      rename_i b
      simp only [extendD] at h
      split at h
      · rename_i xs ys q1 q2
        obtain ⟨us, e, z⟩ := g a _ q1
        obtain ⟨ws, e2, z2⟩ := g b _ q2
        exact ⟨a, b, us, ws, rfl, rfl, e, e2, by rw [← z.length, ← z2.length]; exact h.1, k.setl g q1 (z.append z2) .non h.2⟩
      · exact h.elim
def popD : DM := fun x ds st Q => match x, ds with
  | .ref a, [] => (match st a with | some (.lst xs) => (match xs[xs.length - 1]? with | some d => Q d (put st a (.lst xs.dropLast)) | none => False) | _ => False)
  | _, _ => False
theorem dm_pop : DMet X "list" rPop popD := by
  intro x ds v vs st H Qd Q g rx rs h k
  cases rx <;> try (cases rs <;> exact h.elim)
  rename_i a
  cases rs with
  | cons r rs => exact h.elim
  | nil =>
    simp only [popD] at h
    split at h
    · rename_i xs q
      obtain ⟨us, e, z⟩ := g a _ q
      split at h
      · rename_i d q2
        obtain ⟨v, e1, r1⟩ := z.get q2
        exact ⟨a, us, v, rfl, rfl, e, by rw [← z.length]; exact e1, k.setl g q z.dropLast r1 h⟩
      · exact h.elim
    · exact h.elim
def reverseD : DM := fun x ds st Q => match x, ds with
  | .ref a, [] => (match st a with | some (.lst xs) => Q .non (put st a (.lst xs.reverse)) | _ => False)
  | _, _ => False
theorem dm_reverse : DMet X "list" rReverse reverseD := by
  intro x ds v vs st H Qd Q g rx rs h k
  cases rx <;> try (cases rs <;> exact h.elim)
  rename_i a
  cases rs with
  | cons r rs => exact h.elim
  | nil =>
    simp only [reverseD] at h
    split at h
    · rename_i xs q
      obtain ⟨us, e, z⟩ := g a _ q
      exact ⟨a, us, rfl, rfl, e, k.setl g q z.reverse .non h⟩
    · exact h.elim
def clearD : DM := fun x ds st Q => match x, ds with
  | .ref a, [] => (match st a with | some (.lst xs) => Q .non (put st a (.lst [])) | _ => False)
  | _, _ => False
theorem dm_clear : DMet X "list" rClear clearD := by
  intro x ds v vs st H Qd Q g rx rs h k
  cases rx <;> try (cases rs <;> exact h.elim)
  rename_i a
  cases rs with
  | cons r rs => exact h.elim
  | nil =>
    simp only [clearD] at h
    split at h
    · rename_i xs q
      obtain ⟨us, e, z⟩ := g a _ q
      exact ⟨a, us, rfl, rfl, e, k.setl g q (ds := []) .nil .non h⟩
    · exact h.elim
/-- xs[i] = v -/
def setLD : D3S := fun o i d st Q => match o, i with
  | .ref a, .int k => (match st a with | some (.lst xs) => (match ixN xs.length k with | some j => Q (put st a (.lst (xs.set j d))) | none => False) | _ => False)
  | _, _ => False
theorem dset_list : DSetR X rSetL setLD := by
  intro o i d vo vi v st H Qd Q g ro ri rd h k
  cases ro <;> cases ri <;> try exact h.elim
  rename_i a n
  simp only [setLD] at h
  split at h
  · rename_i xs q
    split at h
    · rename_i j e
      obtain ⟨us, f, z⟩ := g a _ q
      refine ⟨a, us, n, j, rfl, rfl, f, by rw [← z.length]; exact e, k _ _ h ?_ (Stp.set q rfl)⟩
      exact g.set q fun t => ⟨_, upd_same, (z.set rd).mono t⟩
    · exact h.elim
  · exact h.elim
end
end Sw

/-! enumerate(tuple) -/
namespace Sw
open PySem PySem.Spec PyProof.Rows L2
open AutoSeq1 (wpAny_loadPart')
theorem meets_enum1 {v : Value} {o : Obj} {H : Heap → Prop} (B : Begins v o H) :
    Meets (Builtin.«enumerate.__new__» ⟨[.type "enumerate", v], []⟩) (fun _ R s => H s.heap ∧
      R (.ok (.ret (.ref (s.heap.push o).objs.size))) { s with heap := (s.heap.push o).push { cls := .type "enumerate", data := .fields #[.none, .bool false, .ref s.heap.objs.size, rawInt 0, .none, .none] } }) :=
  .of_wp fun prog w A R s h => by
    obtain ⟨hp, g, d, tk, os⟩ := s; obtain ⟨h1, h⟩ := h
    have hsub := sub_enumerate
    have q1 : ∀ {A' : Around} {E : Value → Shared → Prop} {Q : Value → Shared → Prop}, Q (.ref hp.objs.size) ⟨hp.push o, g, d, tk, os⟩ → wpAny (model prog w) A' (pyIter v) Q E ⟨hp, g, d, tk, os⟩ :=
      fun q => B.iter prog w _ _ ⟨hp, g, d, tk, os⟩ _ h1 q
    wp_walk using q1
    refine wpAny_stack_any fun st => wpAny_pure ?_
    split
    · rename_i c _ _ _ _ _
      cases (c == Value.type "enumerate")
      · wp_walk using q1
        exact ⟨_, rfl, h⟩
      · wp_walk using q1
        exact ⟨_, rfl, h⟩
    · wp_walk using q1
      exact ⟨_, rfl, h⟩
theorem enum_begins1 {prog : Program} {w : World} {A : Around} {E : Value → Shared → Prop} {s : Shared} {v : Value} {o : Obj} {H : Heap → Prop} {Q : Value → Shared → Prop} (B : Begins v o H) (h1 : H s.heap)
    (h : ∀ h', IsEnum h' (s.heap.objs.size + 1) s.heap.objs.size 0 .none → h'.get? s.heap.objs.size = some o → h'.objs.size = s.heap.objs.size + 2 →
      (∀ b o, s.heap.get? b = some o → h'.get? b = some o) → Q (.ref (s.heap.objs.size + 1)) { s with heap := h' }) :
    wpAny (model prog w) A (call (.type "enumerate") [v]) Q E s := by
  refine callType_new F.called_enumerate (by decide) (F.typeCall_enumerate_1 _) (F.newCall_enumerate_1 _) (fun obj => F.args_object_init_2 obj _) F.entry_enumerate_new
    (meets_enum1 B) ⟨h1, ?_⟩
  have hz : (s.heap.push o).objs.size = s.heap.objs.size + 1 := Heap.size_push ..
  show _ ∧ _
  rw [hz]
  have he : IsEnum ((s.heap.push o).push { cls := .type "enumerate", data := .fields #[.none, .bool false, .ref s.heap.objs.size, rawInt 0, .none, .none] }) (s.heap.objs.size + 1) s.heap.objs.size 0 .none := by
    have := Heap.get?_push_size (s.heap.push o) (o := { cls := .type "enumerate", data := .fields #[.none, .bool false, .ref s.heap.objs.size, rawInt 0, .none, .none] }) rfl
    rw [hz] at this; exact this
  exact ⟨⟨_, he, rfl⟩, h _ he (Heap.get?_push_of_some _ (Heap.get?_push_size _ B.free)) (by rw [Heap.size_push, hz]) fun b o x => Heap.get?_push_of_some _ (Heap.get?_push_of_some _ x)⟩
/-- the tuple at a, each item in a new pair -/
def IteT (K : PySem.W.Frag) (a : Addr) : It :=
  ⟨fun i H => ∃ (xs : List V) (x : V), SqT K H a xs ∧ xs[i]? = some x, fun i H v H' => ∃ T x, v = .ref T ∧ H T = none ∧ H' = upd H T (.tup [.int (i : Nat), x]) ∧ ∀ xs, SqT K H a xs → xs[i]? = some x, fun i H => ∃ xs : List V, SqT K H a xs ∧ xs.length = i⟩
theorem turn_enumT {P : Program} {w : World} {K : PySem.W.Frag} {elts : List Expr} {kk : Nat} {tpos : Pos} (a e it : Addr) :
    Turn P w K (.Tuple elts kk tpos) (IteT K a) [e, it] e (fun i h => (∃ old, IsEnum h e it ((i : Nat) : Int) old) ∧ h.IsTupleIter it a i ∧ e ≠ it ∧ a ≠ it ∧ a ≠ e) where
  mem := by simp
  obj := fun i h st b hb => by
    obtain ⟨⟨old, he⟩, ⟨o, ho, hc, hd⟩, _⟩ := st
    have e' : b = e ∨ b = it := by simpa using hb
    rcases e' with z | z
    · rw [z]; exact ⟨_, he, fun v q => nomatch q⟩
    · rw [z]; exact ⟨o, ho, fun v q => by rw [hd] at q; cases q⟩
  keep := fun i h h' st k => let ⟨⟨old, he⟩, hi, hne⟩ := st; ⟨⟨old, k e (by simp) _ he⟩, hi.at fun o q => k it (by simp) o q, hne⟩
  item := by
    intro X hP hw hK hc i pins s σ H E I hf st hg
    subst hP hw hK
    obtain ⟨⟨old, he⟩, hit, hne, hai, hae⟩ := st
    obtain ⟨xs, x, hq, hx⟩ := hg
    obtain ⟨its, rv, p, hz⟩ := I.tuple hq
    obtain ⟨u, hu, ru⟩ := rv.get hx
    have hel : e < s.heap.objs.size := Heap.lt_size he
    have hil : it < s.heap.objs.size := by obtain ⟨_, q, _⟩ := hit; exact Heap.lt_size q
    have hlt : i < its.toArray.size := by
      have := (List.getElem?_eq_some_iff.mp hu).1
      simpa using this
    refine wpAny_pyNext_enum_itemD (Draws.tuple (A := X.A.in1) (I.ok.hd hc) it a hai its.toArray) he ⟨hit, p⟩ hlt hne (by simp [hne, Ne.symm hae]) fun x' h' tk hP ho hst hT hsz hk => ?_
    have ex : x' = u := by
      have h1 : its.toArray[i]? = some u := by simpa using hu
      rw [h1] at hP; exact (Option.some.inj hP).symm
    subst ex
    refine ⟨_, rfl, wpAny_letOwnedTupleGo_enum (s := { s with heap := h', toks := tk + 1 }) ho fun h'' he' sb => ?_⟩
    have hT2 : h''.get? s.heap.objs.size = some { cls := .type "tuple", data := .seq #[.int i tk, x'] } := (sb.2 _ (Nat.ne_of_gt hel)).trans hT
    have new : ObjOk X.prog X.w (upd H s.heap.objs.size (.tup [.int (i : Nat), x])) h'' s.heap.objs.size (.tup [.int (i : Nat), x]) :=
      ⟨by show 2 ≤ sizeLine; decide, [.int i tk, x'], .cons ⟨_, rfl⟩ (.cons ru .nil), ⟨_, hT2, rfl, _, rfl⟩⟩
    have I1 : Inv X pins σ (upd H s.heap.objs.size (.tup [.int (i : Nat), x])) { s with heap := h'', toks := tk + 1 } :=
      I.turnedNew (ch := [e, it]) (fun b ob hb q => (sb.2 b (fun z => hb (by simp [z]))).trans (hk b ob (fun z => hb (by simp [z])) (fun z => hb (by simp [z])) q)) hf (Nat.le_refl _) new
    refine ⟨.ref s.heap.objs.size, _, I1, rfl, ⟨_, x, rfl, I.hok.fresh (Nat.le_refl _), rfl, fun ys hy => by rw [I.tuple_inj hy hq]; exact hx⟩, ⟨⟨x', ?_⟩, hst.1.at fun o q => (sb.2 it (Ne.symm hne)).trans q, hne, hai, hae⟩, fun b hb => ?_⟩
    · have e1 : ((i + 1 : Nat) : Int) = (i : Int) + 1 := by omega
      rw [e1]; exact he'
    · have hb' : b < s.heap.objs.size := by
        have e' : b = e ∨ b = it := by simpa using hb
        rcases e' with z | z
        · rw [z]; exact hel
        · rw [z]; exact hil
      rw [upd_ne (Nat.ne_of_lt hb')]
      exact (hf b hb).1
  done := by
    intro X hP hw hK hc i pins s σ H E I hf st hg
    subst hP hw hK
    obtain ⟨⟨old, he⟩, hit, hne, hai, hae⟩ := st
    obtain ⟨xs, hq, hx⟩ := hg
    obtain ⟨its, rv, p, hz⟩ := I.tuple hq
    obtain ⟨f0, f1, f2, f3, f4, f5⟩ := hf it (by simp)
    have hl := rv.length
    have hn : i = its.toArray.size := by simp; omega
    subst hn
    exact wpAny_pyNext_enum_endD (Draws.tuple (A := X.A.in1) (I.ok.hd hc) it a hai its.toArray) he ⟨hit, p⟩ fun h' eb => ⟨rfl, I.turned (t' := s.toks) (fun b o hb q => eb b o hb q) f0 f1 f3 f4 f5⟩
  self := fun A i s Q E st h => let ⟨⟨_, he⟩, _⟩ := st; wpAny_pyIter_enum he h
def iEnumU (K : PySem.W.Frag) (ta : TA) : TI := fun σ H R => ta σ H fun vs H1 => ∃ a xs, vs = [.ref a] ∧ ((SqL K H1 a xs ∧ R (Ite K a) H1) ∨ (SqT K H1 a xs ∧ R (IteT K a) H1))
theorem pi_enumU {X : Cx} {e : Expr} {ta : TA} {p pos tpos : Pos} {elts : List Expr} {kk : Nat} (hg : Gl X "enumerate") (hm : X.mg "enumerate" = none) (ha : PA X [e] ta) (hs : starEach [e] X.env = [(false, eval e X.env)] := by rfl) :
    PI X (.Tuple elts kk tpos) (.Call (.Name "enumerate" p) [e] [] pos) (iEnumU X.K ta) := by
  refine ⟨fun pins s σ H R I h => ?_⟩
  refine Call_ (ld_blt I hg hm boot_enumerate (PyProof.Rows.callWith_type1 (thn (ha.run pos pins s σ H _ I h) fun us s1 ⟨vs, H1, I1, r1, q1⟩ => ?_) hs rfl))
  obtain ⟨a, xs, ex, hq⟩ := q1
  subst ex
  cases r1 with
  | cons r rr =>
    cases rr
    cases r
    have fp : ∀ b ∈ [s1.heap.objs.size + 1, s1.heap.objs.size], FpOk X pins H1 b := fun b hb => by
      have e' : b = s1.heap.objs.size + 1 ∨ b = s1.heap.objs.size := by simpa using hb
      have hle : s1.heap.objs.size ≤ b := by
        rcases e' with z | z
        · rw [z]; exact Nat.le_add_right _ _
        · rw [z]; exact Nat.le_refl _
      exact I1.fpOk hle (I1.hok.fresh hle)
    rcases hq with ⟨hq, q⟩ | ⟨hq, q⟩
    · obtain ⟨its, rv, p', hz⟩ := I1.list hq
      refine call_enumerate_list p'.isList fun h' he hit hsz hk => wpAny_pyIter_enum he ?_
      have I2 : Inv X pins σ H1 { s1 with heap := h' } := I1.kept (t' := s1.toks) hk
      exact ⟨s1.heap.objs.size + 1, [s1.heap.objs.size + 1, s1.heap.objs.size], _, _, H1, rfl, I2, turn_enum a (s1.heap.objs.size + 1) s1.heap.objs.size, ⟨⟨.none, he⟩, hit, Nat.succ_ne_self _⟩, fp, q⟩
    · obtain ⟨its, rv, p', hz⟩ := I1.tuple hq
      have hal : a < s1.heap.objs.size := p'.lt
      refine enum_begins1 (begins_tuple a its.toArray) p' fun h' he hit hsz hk => wpAny_pyIter_enum he ?_
      have I2 : Inv X pins σ H1 { s1 with heap := h' } := I1.kept (t' := s1.toks) hk
      exact ⟨s1.heap.objs.size + 1, [s1.heap.objs.size + 1, s1.heap.objs.size], _, _, H1, rfl, I2, turn_enumT a (s1.heap.objs.size + 1) s1.heap.objs.size, ⟨⟨.none, he⟩, ⟨_, hit, rfl, rfl⟩, Nat.succ_ne_self _, Nat.ne_of_lt hal, Nat.ne_of_lt (Nat.lt_succ_of_lt hal)⟩, fp, q⟩
end Sw

namespace Sw
open PySem PySem.Spec PyProof.Rows L2 RZ
section
variable {X : Cx} {E : XK} {a b c e : Expr} {ma mb mc me : ME} {pos : Pos} {tg : Expr}
/-! ### what a for walks -/
theorem lstAt_rd {P : Program} {w : World} {K : PySem.W.Frag} {st : Sto} {H : Hp} {a : Addr} {ds : List DV} (g : Agr P w K st H) (h : lstAt st a = some ds) : (∃ xs, Rd H a (.lst xs) ∧ DVs K H ds xs) ∧ LsOk st [a] := by
  unfold lstAt at h
  split at h
  · rename_i es q; cases h; obtain ⟨xs, e, z⟩ := g a _ q
    exact ⟨⟨xs, .inl e, z⟩, fun b hb => by have e : b = a := by simpa using hb
                                           subst e; exact ⟨_, q, .inr ⟨_, rfl⟩⟩⟩
  · rename_i es q; cases h; obtain ⟨xs, e, z⟩ := g a _ q
    exact ⟨⟨xs, e, z⟩, fun b hb => by have e : b = a := by simpa using hb
                                      subst e; exact ⟨_, q, .inl rfl⟩⟩
  · cases h
theorem rd_at {H H2 : Hp} {a : Addr} {u : HO} (h : Rd H a u) (e : H2 a = H a) : Rd H2 a u := by
  rcases h with h | ⟨o, h⟩
  · exact .inl (by rw [e]; exact h)
  · exact .inr ⟨o, by rw [e]; exact h⟩
theorem rd_inj {H : Hp} {a : Addr} {xs ys : List V} {K : PySem.W.Frag} (h : Rd H a (.lst xs)) (h' : Rd H a (.lst ys)) : xs = ys := by
  rcases h with h | ⟨o, h⟩ <;> rcases h' with h' | ⟨o', h'⟩ <;> rw [h] at h' <;> cases h' <;> rfl
theorem ylds_list {K : PySem.W.Frag} {H : Hp} {a : Addr} {xs : List V} {ds : List DV} (h : Rd H a (.lst xs)) (hs : DVs K H ds xs) : Ylds K (Itl K a) ds [a] H := fun H2 e t => by
  have h2 := rd_at h (e a (by simp))
  have hl := hs.length
  refine ⟨fun i hi => ?_, ⟨xs, .inl h2, by omega⟩⟩
  obtain ⟨v, ev, rv⟩ := hs.get (List.getElem?_eq_getElem hi)
  refine ⟨⟨xs, v, .inl h2, ev⟩, fun x H3 y => ?_⟩
  obtain ⟨rfl, y⟩ := y
  have := y xs (.inl h2)
  rw [ev] at this; cases this
  exact ⟨.inl rfl, rv.mono t⟩
theorem ylds_tup {K : PySem.W.Frag} {H : Hp} {a : Addr} {xs : List V} {ds : List DV} (h : SqT K H a xs) (hs : DVs K H ds xs) : Ylds K (Itt K a) ds [] H := fun H2 e t => by
  have h2 := t _ _ h
  have hl := hs.length
  refine ⟨fun i hi => ?_, ⟨xs, h2, by omega⟩⟩
  obtain ⟨v, ev, rv⟩ := hs.get (List.getElem?_eq_getElem hi)
  refine ⟨⟨xs, v, h2, ev⟩, fun x H3 y => ?_⟩
  obtain ⟨rfl, y⟩ := y
  have := y xs h2
  rw [ev] at this; cases this
  exact ⟨.inl rfl, rv.mono t⟩
def charsD (z : Str) : List DV := z.cps.toList.map fun c => .str ⟨#[c]⟩
theorem ylds_str {K : PySem.W.Frag} {H : Hp} {z : Str} : Ylds K (Its z) (charsD z) [] H := fun H2 e t => by
  have hl : (charsD z).length = z.cps.size := by simp [charsD]
  refine ⟨fun i hi => ?_, by show z.cps.size ≤ _; omega⟩
  have hi' : i < z.cps.size := by omega
  refine ⟨hi', fun x H3 y => ?_⟩
  obtain ⟨rfl, c, hc, rfl⟩ := y
  refine ⟨.inl rfl, ?_⟩
  have : (charsD z)[i] = .str ⟨#[c]⟩ := by
    simp only [charsD, List.getElem_map, Array.getElem_toList]
    congr 2
    have := (Array.getElem?_eq_some_iff.mp hc).2
    rw [this]
  rw [this]
  exact .str _
def iSeqU (K : PySem.W.Frag) (tl : TE) : TI := fun σ H R => tl σ H fun x H1 => (∃ a, x = .ref a ∧ (∃ xs, SqL K H1 a xs) ∧ R (Itl K a) H1) ∨ (∃ a, x = .ref a ∧ (∃ xs, SqT K H1 a xs) ∧ R (Itt K a) H1) ∨ ∃ z, x = .str z ∧ R (Its z) H1
theorem pi_seqU {l : Expr} {tl : TE} (hl : PE X l tl) : PI X tg l (iSeqU X.K tl) := by
  refine ⟨fun pins s σ H R I h => ?_⟩
  refine thn (hl.run pins s σ H _ I h) fun v s1 ⟨x, H1, I1, r1, q1⟩ => ?_
  have fp : ∀ b ∈ [s1.heap.objs.size], FpOk X pins H1 b := fun b hb => by
    have e : b = s1.heap.objs.size := by simpa using hb
    subst e
    exact I1.fpOk (Nat.le_refl _) (I1.hok.fresh (Nat.le_refl _))
  rcases q1 with ⟨a, e, ⟨xs, hq⟩, q⟩ | ⟨a, e, ⟨xs, hq⟩, q⟩ | ⟨z, e, q⟩
  · subst e
    cases r1
    obtain ⟨its, rv, p, hz⟩ := I1.list hq
    refine wpAny_pyIter_list p.isList ?_
    exact ⟨s1.heap.objs.size, [s1.heap.objs.size], _, _, H1, rfl, I1.kept (t' := s1.toks) fun b o e => Heap.get?_push_of_some _ e, turn_list a _, ⟨_, Heap.get?_push_size _ rfl, rfl, rfl⟩, fp, q⟩
  · subst e
    cases r1
    obtain ⟨its, rv, p, hz⟩ := I1.tuple hq
    refine wpAny_pyIter_tuple (show s1.heap.IsTuple a its.toArray from p) ?_
    exact ⟨s1.heap.objs.size, [s1.heap.objs.size], _, _, H1, rfl, I1.kept (t' := s1.toks) fun b o e => Heap.get?_push_of_some _ e, turn_tuple a _, ⟨_, Heap.get?_push_size _ rfl, rfl, rfl⟩, fp, q⟩
  · subst e
    obtain ⟨t, rfl⟩ := r1
    cases ha : z.cps.all (· < 128)
    · exact wpAny_pyIter_wide ha (pi_one (tk := s1.toks) I1 _ (turn_str _ z t "str_iterator" (.inr rfl)) ⟨_, Heap.get?_push_size _ rfl, rfl, rfl⟩ q)
    · exact wpAny_pyIter_ascii ha (pi_one (tk := s1.toks) I1 _ (turn_str _ z t "str_ascii_iterator" (.inl rfl)) ⟨_, Heap.get?_push_size _ rfl, rfl, rfl⟩ q)
/-- a list, a tuple, a text -/
def iSeq (m : ME) : MI := fun W ρ st Q => m W ρ st fun d st1 => match d with
  | .ref a => (match lstAt st1 a with | some ds => Q ds [a] st1 | none => False)
  | .tup ds => Q ds [] st1
  | .str z => Q (charsD z) [] st1
  | _ => False
theorem di_seq (h : DE X E e me) : DI X E tg e (iSeq me) := by
  obtain ⟨t, p, q⟩ := h
  refine ⟨_, pi_seqU p, fun W ρ σ st H Qd R S h k => ?_⟩
  refine q W ρ σ st H _ _ S h fun d st1 v H1 h1 r1 g1 s1 => ?_
  cases r1 <;> try exact h1.elim
  · exact .inr (.inr ⟨_, rfl, k _ _ st1 H1 _ h1 g1 s1 (fun _ z => nomatch z) ylds_str⟩)
  · rename_i a xs ds hq hs
    exact .inr (.inl ⟨a, rfl, ⟨xs, hq⟩, k _ _ st1 H1 _ h1 g1 s1 (fun _ z => nomatch z) (ylds_tup hq hs)⟩)
  · rename_i a
    simp only at h1
    split at h1
    · rename_i ds e
      obtain ⟨⟨xs, hq, hs⟩, hl⟩ := lstAt_rd g1 e
      exact .inl ⟨a, rfl, ⟨xs, .inl hq⟩, k _ _ st1 H1 _ h1 g1 s1 hl (ylds_list hq hs)⟩
    · exact h1.elim
/-- range -/
def rangeD (lo : Int) (n : Nat) : List DV := (List.range n).map fun i => .int (lo + (i : Nat))
theorem ylds_range {K : PySem.W.Frag} {H : Hp} {lo : Int} {n : Nat} : Ylds K (Itr lo n) (rangeD lo n) [] H := fun H2 e t => by
  have hl : (rangeD lo n).length = n := by simp [rangeD]
  refine ⟨fun i hi => ?_, by show n ≤ _; omega⟩
  refine ⟨by show i < n; omega, fun x H3 y => ?_⟩
  obtain ⟨rfl, rfl⟩ := y
  refine ⟨.inl rfl, ?_⟩
  have : (rangeD lo n)[i] = .int (lo + (i : Nat)) := by simp [rangeD]
  rw [this]; exact .int _
def iRange1 (ms : MA) : MI := fun W ρ st Q => ms W ρ st fun ds st1 => match ds with
  | [.int j] => (-(2 ^ 62) ≤ j ∧ j < 2 ^ 62) ∧ Q (rangeD 0 j.toNat) [] st1
  | _ => False
def iRange2 (ms : MA) : MI := fun W ρ st Q => ms W ρ st fun ds st1 => match ds with
  | [.int i, .int j] => (-(2 ^ 62) ≤ i ∧ i < 2 ^ 62 ∧ -(2 ^ 62) ≤ j ∧ j < 2 ^ 62) ∧ Q (rangeD i (j - i).toNat) [] st1
  | _ => False
theorem di_range1 {ms : MA} {p : Pos} (hm : X.mg "range" = none) (ha : DA X E [a] ms) (hg : Gl X "range" := by rfl) (hs : starEach [a] X.env = [(false, eval a X.env)] := by rfl) : DI X E tg (.Call (.Name "range" p) [a] [] pos) (iRange1 ms) := by
  obtain ⟨t, pt, q⟩ := ha
  refine ⟨_, pi_range1 hg hm pt hs, fun W ρ σ st H Qd R S h k => ?_⟩
  refine q W ρ σ st H _ _ S h fun ds st1 vs H1 h1 r1 g1 s1 => ?_
  cases r1 with
  | nil => exact h1.elim
  | cons r rs =>
    cases rs with
    | cons _ _ => cases r <;> exact h1.elim
    | nil =>
      cases r <;> try exact h1.elim
      exact ⟨_, rfl, h1.1.1, h1.1.2, k _ _ st1 H1 _ h1.2 g1 s1 (fun _ z => nomatch z) ylds_range⟩
theorem di_range2 {ms : MA} {p : Pos} (hm : X.mg "range" = none) (ha : DA X E [a, b] ms) (hg : Gl X "range" := by rfl) (hs : starEach [a, b] X.env = [(false, eval a X.env), (false, eval b X.env)] := by rfl) (hs2 : starEach [b] X.env = [(false, eval b X.env)] := by rfl) : DI X E tg (.Call (.Name "range" p) [a, b] [] pos) (iRange2 ms) := by
  obtain ⟨t, pt, q⟩ := ha
  refine ⟨_, pi_range2 hg hm pt hs hs2, fun W ρ σ st H Qd R S h k => ?_⟩
  refine q W ρ σ st H _ _ S h fun ds st1 vs H1 h1 r1 g1 s1 => ?_
  cases r1 with
  | nil => exact h1.elim
  | cons r rs =>
    cases rs with
    | nil => cases r <;> exact h1.elim
    | cons r2 rs =>
      cases rs with
      | cons _ _ => cases r <;> cases r2 <;> exact h1.elim
      | nil =>
        cases r <;> cases r2 <;> try exact h1.elim
        exact ⟨_, _, rfl, h1.1, k _ _ st1 H1 _ h1.2 g1 s1 (fun _ z => nomatch z) ylds_range⟩
/-- enumerate -/
def enumD : Nat → List DV → List DV
  | _, [] => []
  | k, d :: r => .tup [.int k, d] :: enumD (k + 1) r
theorem enumD_length (ds : List DV) : ∀ k, (enumD k ds).length = ds.length := by
  induction ds with
  | nil => intro k; rfl
  | cons d r ih => intro k; simp [enumD, ih]
theorem enumD_get (ds : List DV) : ∀ (k i : Nat) (h : i < (enumD k ds).length), (enumD k ds)[i] = .tup [.int ((k + i : Nat) : Int), ds[i]'(by rw [enumD_length] at h; exact h)] := by
  induction ds with
  | nil => intro k i h; simp [enumD] at h
  | cons d r ih =>
    intro k i h
    cases i with
    | zero => simp [enumD]
    | succ i =>
      simp only [enumD, List.getElem_cons_succ]
      rw [ih (k + 1) i]
      congr 3
      omega
theorem ylds_enumL {K : PySem.W.Frag} {H : Hp} {a : Addr} {xs : List V} {ds : List DV} (h : Rd H a (.lst xs)) (hs : DVs K H ds xs) : Ylds K (Ite K a) (enumD 0 ds) [a] H := fun H2 e t => by
  have h2 := rd_at h (e a (by simp))
  have hl := hs.length
  refine ⟨fun i hi => ?_, ⟨xs, .inl h2, by rw [enumD_length]; omega⟩⟩
  have hi' : i < ds.length := by rw [enumD_length] at hi; exact hi
  obtain ⟨v, ev, rv⟩ := hs.get (List.getElem?_eq_getElem hi')
  refine ⟨⟨xs, v, .inl h2, ev⟩, fun x H3 y => ?_⟩
  obtain ⟨T, x1, rfl, nT, rfl, y⟩ := y
  have := y xs (.inl h2)
  rw [ev] at this; cases this
  refine ⟨.inr ⟨T, _, nT, rfl⟩, ?_⟩
  rw [enumD_get]
  exact .tup (SqT.of upd_same) (.cons (by rw [Nat.zero_add]; exact .int _) (.cons ((rv.mono t).mono (tupX_new nT)) .nil))
theorem ylds_enumT {K : PySem.W.Frag} {H : Hp} {a : Addr} {xs : List V} {ds : List DV} (h : SqT K H a xs) (hs : DVs K H ds xs) : Ylds K (IteT K a) (enumD 0 ds) [] H := fun H2 e t => by
  have h2 := t _ _ h
  have hl := hs.length
  refine ⟨fun i hi => ?_, ⟨xs, h2, by rw [enumD_length]; omega⟩⟩
  have hi' : i < ds.length := by rw [enumD_length] at hi; exact hi
  obtain ⟨v, ev, rv⟩ := hs.get (List.getElem?_eq_getElem hi')
  refine ⟨⟨xs, v, h2, ev⟩, fun x H3 y => ?_⟩
  obtain ⟨T, x1, rfl, nT, rfl, y⟩ := y
  have := y xs h2
  rw [ev] at this; cases this
  refine ⟨.inr ⟨T, _, nT, rfl⟩, ?_⟩
  rw [enumD_get]
  exact .tup (SqT.of upd_same) (.cons (by rw [Nat.zero_add]; exact .int _) (.cons ((rv.mono t).mono (tupX_new nT)) .nil))
def iEnumD (ms : MA) : MI := fun W ρ st Q => ms W ρ st fun ds st1 => match ds with
  | [.ref a] => (match lstAt st1 a with | some ds => Q (enumD 0 ds) [a] st1 | none => False)
  | [.tup ds] => Q (enumD 0 ds) [] st1
  | _ => False
theorem di_enum {ms : MA} {p tpos : Pos} {elts : List Expr} {kk : Nat} (hm : X.mg "enumerate" = none) (ha : DA X E [a] ms) (hg : Gl X "enumerate" := by rfl) (hs : starEach [a] X.env = [(false, eval a X.env)] := by rfl) : DI X E (.Tuple elts kk tpos) (.Call (.Name "enumerate" p) [a] [] pos) (iEnumD ms) := by
  obtain ⟨t, pt, q⟩ := ha
  refine ⟨_, pi_enumU hg hm pt hs, fun W ρ σ st H Qd R S h k => ?_⟩
  refine q W ρ σ st H _ _ S h fun ds st1 vs H1 h1 r1 g1 s1 => ?_
  cases r1 with
  | nil => exact h1.elim
  | cons r rs =>
    cases rs with
    | cons _ _ => cases r <;> exact h1.elim
    | nil =>
      cases r <;> try exact h1.elim
      · rename_i a xs ds hq hs
        exact ⟨a, xs, rfl, .inr ⟨hq, k _ _ st1 H1 _ h1 g1 s1 (fun _ z => nomatch z) (ylds_enumT hq hs)⟩⟩
      · rename_i a
        simp only at h1
        split at h1
        · rename_i ds e
          obtain ⟨⟨xs, hq, hs⟩, hl⟩ := lstAt_rd g1 e
          exact ⟨a, xs, rfl, .inl ⟨.inl hq, k _ _ st1 H1 _ h1 g1 s1 hl (ylds_enumL hq hs)⟩⟩
        · exact h1.elim
/-- zip of two lists -/
def zipD : List DV → List DV → List DV := List.zipWith fun x y => .tup [x, y]
theorem ylds_zip {K : PySem.W.Frag} {H : Hp} {a b : Addr} {xs ys : List V} {ds es : List DV} (h : Rd H a (.lst xs)) (hs : DVs K H ds xs) (h' : Rd H b (.lst ys)) (hs' : DVs K H es ys) : Ylds K (Itz K a b) (zipD ds es) [a, b] H := fun H2 e t => by
  have h2 := rd_at h (e a (by simp))
  have h2' := rd_at h' (e b (by simp))
  have hl := hs.length
  have hl' := hs'.length
  have hz : (zipD ds es).length = min ds.length es.length := by simp [zipD]
  refine ⟨fun i hi => ?_, ⟨xs, ys, .inl h2, .inl h2', by omega⟩⟩
  have h1 : i < ds.length := by omega
  have h3 : i < es.length := by omega
  obtain ⟨v, ev, rv⟩ := hs.get (List.getElem?_eq_getElem h1)
  obtain ⟨u, eu, ru⟩ := hs'.get (List.getElem?_eq_getElem h3)
  refine ⟨⟨xs, ys, v, u, .inl h2, .inl h2', ev, eu⟩, fun x H3 y => ?_⟩
  obtain ⟨T, x1, y1, rfl, nT, rfl, y, y'⟩ := y
  have q1 := y xs (.inl h2)
  rw [ev] at q1; cases q1
  have q2 := y' ys (.inl h2')
  rw [eu] at q2; cases q2
  refine ⟨.inr ⟨T, _, nT, rfl⟩, ?_⟩
  have : (zipD ds es)[i] = .tup [ds[i], es[i]] := by simp [zipD]
  rw [this]
  exact .tup (SqT.of upd_same) (.cons ((rv.mono t).mono (tupX_new nT)) (.cons ((ru.mono t).mono (tupX_new nT)) .nil))
def iZipD (ms : MA) : MI := fun W ρ st Q => ms W ρ st fun ds st1 => match ds with
  | [.ref a, .ref b] => (match lstAt st1 a, lstAt st1 b with | some ds, some es => Q (zipD ds es) [a, b] st1 | _, _ => False)
  | _ => False
theorem di_zip {ms : MA} {p tpos : Pos} {elts : List Expr} {kk : Nat} (hm : X.mg "zip" = none) (ha : DA X E [a, b] ms) (hg : Gl X "zip" := by rfl) (hs : starEach [a, b] X.env = (false, eval a X.env) :: starEach [b] X.env := by rfl) (hpl : (backTo pos (starEach [b] X.env)).any (·.1) = false := by rfl) :
    DI X E (.Tuple elts kk tpos) (.Call (.Name "zip" p) [a, b] [] pos) (iZipD ms) := by
  obtain ⟨t, pt, q⟩ := ha
  refine ⟨_, pi_zipA hg hm pt hs hpl, fun W ρ σ st H Qd R S h k => ?_⟩
  refine q W ρ σ st H _ _ S h fun ds st1 vs H1 h1 r1 g1 s1 => ?_
  cases r1 with
  | nil => exact h1.elim
  | cons r rs =>
    cases rs with
    | nil => cases r <;> exact h1.elim
    | cons r2 rs =>
      cases rs with
      | cons _ _ => cases r <;> cases r2 <;> exact h1.elim
      | nil =>
        cases r <;> cases r2 <;> try exact h1.elim
        rename_i a b
        simp only at h1
        split at h1
        · rename_i ds es e1 e2
          obtain ⟨⟨xs, hq, hs⟩, hl⟩ := lstAt_rd g1 e1
          obtain ⟨⟨ys, hq2, hs2⟩, hl2⟩ := lstAt_rd g1 e2
          refine ⟨a, b, xs, ys, rfl, .inl ⟨.inl hq, .inl hq2, k _ _ st1 H1 _ h1 g1 s1 (fun z hz => ?_) (ylds_zip hq hs hq2 hs2)⟩⟩
          have e : z = a ∨ z = b := by simpa using hz
          rcases e with rfl | rfl
          · exact hl _ (by simp)
          · exact hl2 _ (by simp)
        · exact h1.elim

/-! ### comprehensions -/
def wipeD (ρ : Rho) : List Nat → Rho
  | [] => ρ
  | v :: vs => (wipeD ρ vs).set v none
theorem wipeR {K : PySem.W.Frag} {H : Hp} {ρ : Rho} {σ : L2.St} (r : RhoR K H ρ σ) : ∀ vs : List Nat, RhoR K H (wipeD ρ vs) (wipe σ vs)
  | [] => r
  | v :: vs => by
    have ih := wipeR r vs
    refine ⟨by simp [wipeD, wipe, ih.1], fun i d e => ?_⟩
    unfold wipeD at e
    unfold wipe
    by_cases hv : v = i
    · subst hv
      by_cases hl : v < (wipeD ρ vs).length
      · rw [List.getElem?_set_self hl] at e; cases e
      · rw [List.getElem?_eq_none (by simp; omega)] at e; cases e
    · rw [List.getElem?_set_ne hv] at e
      rw [List.getElem?_set_ne hv]
      exact ih.2 i d e
/-- a target of the block's own slots alone -/
def DGw (X : Cx) (E : XK) (vs : List Nat) (tg : Expr) (g : MG) : Prop := ∃ t, PG X tg t ∧ ∀ W d v ρ σ st H Qd Q, Sim X E W ρ σ st H → DVr X.K H d v → g W d ρ st Qd → (∀ ρ' σ' st' H', Qd ρ' st' → Sim X E W ρ' σ' st' H' → Stp st H st' H' → wipe σ' vs = wipe σ vs → Q σ' H') → t v σ H Q
def DGsw (X : Cx) (E : XK) (vs : List Nat) (tg : List Expr) (g : MGs) : Prop := ∃ t, PGs X tg t ∧ ∀ W ds us ρ σ st H Qd Q, Sim X E W ρ σ st H → DVs X.K H ds us → g W ds ρ st Qd → (∀ ρ' σ' st' H', Qd ρ' st' → Sim X E W ρ' σ' st' H' → Stp st H st' H' → wipe σ' vs = wipe σ vs → Q σ' H') → t us σ H Q
theorem wipe_set {σ : L2.St} {i : Nat} {x : Option V} : ∀ {vs : List Nat}, i ∈ vs → wipe (σ.set i x) vs = wipe σ vs
  | v :: vs, h => by
    unfold wipe
    by_cases hi : i ∈ vs
    · rw [wipe_set hi]
    · have e : v = i := by
        rcases List.mem_cons.mp h with h | h
        · exact h.symm
        · exact absurd h hi
      subst e
      have aux : ∀ ws : List Nat, v ∉ ws → wipe (σ.set v x) ws = (wipe σ ws).set v x := by
        intro ws
        induction ws with
        | nil => intro _; rfl
        | cons w ws ih =>
          intro hw
          have hw' : v ≠ w ∧ v ∉ ws := by simpa using hw
          unfold wipe
          rw [ih hw'.2, List.set_comm _ _ hw'.1]
      rw [aux vs hi, List.set_set]
theorem dgw_name (i : Nat) {vs : List Nat} {x : Str} (hN : X.N.Nodup) (hi : X.N[i]? = some x := by rfl) (hx : Loc X.env.scope x := by first | exact .inl rfl | exact .inr rfl) (hv : i ∈ vs := by decide)
    (hf : X.fn x = true ∨ X.env.scope.names.lookup x = some .local := by first | exact .inl rfl | exact .inr rfl | assumption) : DGw X E vs (.Name x pos) (gNm i) :=
  ⟨_, pg_name hN hi hx hf, fun W d v ρ σ st H Qd Q S r h k => k _ _ _ _ h (S.set r) (.refl _ _) (wipe_set hv)⟩
theorem dgsw_nil {vs : List Nat} : DGsw X E vs [] gNl := ⟨_, pgs_nil, fun W ds us ρ σ st H Qd Q S r h k => by
  cases r with
  | nil => exact ⟨rfl, k _ _ _ _ h S (.refl _ _) rfl⟩
  | cons _ _ => exact h.elim⟩
theorem dgsw_cons {vs : List Nat} {es : List Expr} {g : MG} {gs : MGs} (h1 : DGw X E vs e g) (h2 : DGsw X E vs es gs) (hs : (assignEach (e :: es) X.env).map (·.2) = assign e X.env :: (assignEach es X.env).map (·.2) := by rfl) : DGsw X E vs (e :: es) (gCn g gs) := by
  obtain ⟨t1, p1, q1⟩ := h1
  obtain ⟨t2, p2, q2⟩ := h2
  refine ⟨_, pgs_cons p1 p2 hs, fun W ds us ρ σ st H Qd Q S r h k => ?_⟩
  cases r with
  | nil => exact h.elim
  | cons r rr =>
    refine ⟨_, _, rfl, q1 W _ _ ρ σ st H _ _ S r h fun ρ1 σ1 st1 H1 h1 S1 s1 w1 => ?_⟩
    exact q2 W _ _ ρ1 σ1 st1 H1 Qd Q S1 (rr.mono (s1.tup S.g)) h1 fun ρ2 σ2 st2 H2 a b c d => k _ _ _ _ a b (s1.trans c) (d.trans w1)
theorem dgw_tup {vs : List Nat} {es : List Expr} {k : Nat} {gs : MGs} {n : Nat} (hc : X.calm = true) (h : DGsw X E vs es gs) (hn : (assignEach es X.env).length = n := by rfl) (hst : (assignEach es X.env).findIdx? (·.1) = none := by rfl) : DGw X E vs (.Tuple es k pos) (gTp n gs) := by
  obtain ⟨t, p, q⟩ := h
  refine ⟨_, pg_tup hc p hn hst, fun W d v ρ σ st H Qd Q S r h k => ?_⟩
  cases r with
  | tup hq hs => exact ⟨_, _, rfl, hq, by rw [← hs.length]; exact h.1, q W _ _ ρ σ st H Qd Q S hs h.2 k⟩
  | _ => exact h.elim
def DTs (X : Cx) (E : XK) (es : List Expr) (m : MT) : Prop := ∃ t, PTs X es t ∧ ∀ W ρ σ st H Qd Q, Sim X E W ρ σ st H → m W ρ st Qd → CnT X st H Qd Q → t σ H Q
def mYes : MT := fun _ _ st Q => Q true st
theorem dts_nil : DTs X E [] mYes := ⟨_, pts_nil, fun W ρ σ st H Qd Q S h k => k _ _ _ h S.g (.refl _ _)⟩
theorem dts_one {t : MT} (h : DT X E c t) : DTs X E [c] t := let ⟨t, p, q⟩ := h; ⟨t, pts_one p, q⟩
/-- nothing is raised -/
def W0 : XD := fun _ _ _ => False
def lcL (g : MG) (mt : MT) (me : ME) (ρ : Rho) : List DV → List DV → Sto → (List DV → Sto → Prop) → Prop
  | [], acc, st, Q => Q acc st
  | d :: r, acc, st, Q => g W0 d ρ st fun ρ1 st1 => mt W0 ρ1 st1 fun b st2 => if b = true then me W0 ρ1 st2 fun x st3 => lcL g mt me ρ r (acc ++ [x]) st3 Q else lcL g mt me ρ r acc st2 Q
def mLc (mi : MI) (g : MG) (mt : MT) (me : ME) (vs : List Nat) : ME := fun W ρ st Q => mi W ρ st fun ds ls st1 => ds.length ≤ sizeLine ∧
  lcL g mt me (wipeD ρ vs) ds [] (lockS st1 ls) fun acc st2 => ∀ p, unlockS st1 st2 ls p = none → Q (.ref p) (put (unlockS st1 st2 ls) p (.lst acc))
theorem unlock_none {st st2 : Sto} {ls : List Addr} {D : Addr} (h1 : st D = none) (h2 : st2 D = none) : unlockS st st2 ls D = none := by
  unfold unlockS; split
  · rw [h1]; exact h2
  · exact h2
theorem lc_sound {mi : MI} {g : MG} {mt : MT} {me : ME} {vs : List Nat} {wi : TI} {gt : TG} {tt : TT} {te : TE}
    (hi : ∀ W ρ σ st H Qd R, Sim X E W ρ σ st H → mi W ρ st Qd → (∀ ds ls st' H' J, Qd ds ls st' → Agr X.prog X.w X.K st' H' → Stp st H st' H' → LsOk st' ls → Ylds X.K J ds ls H' → R J H') → wi σ H R)
    (X' : Cx) (hP : X'.prog = X.prog) (hw : X'.w = X.w) (hK : X'.K = X.K)
    (hg : ∀ W d v ρ σ st H Qd Q, Sim X' E0 W ρ σ st H → DVr X'.K H d v → g W d ρ st Qd → (∀ ρ' σ' st' H', Qd ρ' st' → Sim X' E0 W ρ' σ' st' H' → Stp st H st' H' → wipe σ' vs = wipe σ vs → Q σ' H') → gt v σ H Q)
    (ht : ∀ W ρ σ st H Qd Q, Sim X' E0 W ρ σ st H → mt W ρ st Qd → CnT X' st H Qd Q → tt σ H Q)
    (he : ∀ W ρ σ st H Qd Q, Sim X' E0 W ρ σ st H → me W ρ st Qd → Cn X' st H Qd Q → te σ H Q) :
    ∀ W ρ σ st H Qd Q, Sim X E W ρ σ st H → mLc mi g mt me vs W ρ st Qd → Cn X st H Qd Q → tLc wi gt tt te vs σ H Q := by
  intro W ρ σ st H Qd Q S h k
  refine hi W ρ σ st H _ _ S h fun ds ls st1 H1 J h1 g1 s1 l1 y1 D hD => ?_
  obtain ⟨hz, h1⟩ := h1
  have hD1 : st1 D = none := g1.free hD
  have gl := lock_agr g1 ls
  have hww : ∀ σ' : L2.St, wipe (wipe σ' vs) vs = wipe σ' vs := by
    intro σ'
    apply List.ext_getElem?
    intro i
    have key : ∀ (τ : L2.St) (us : List Nat) (i : Nat), (wipe τ us)[i]? = if i ∈ us then (if i < τ.length then some none else none) else τ[i]? := by
      intro τ us
      induction us with
      | nil => intro i; simp [wipe]
      | cons u us ih =>
        intro i
        unfold wipe
        by_cases hu : u = i
        · subst hu
          by_cases hl : u < τ.length
          · rw [List.getElem?_set_self (by rw [wipe_length]; exact hl)]; simp [hl]
          · rw [List.getElem?_eq_none (by simp [wipe_length]; omega)]; simp [hl]
        · rw [List.getElem?_set_ne hu, ih i]
          simp [Ne.symm hu]
    rw [key, key, wipe_length]
    split <;> rfl
  refine ⟨fun i m H2 => ∃ accV acc st2, m + i = ds.length ∧ acc.length ≤ i ∧ H2 D = some (.lst accV) ∧ DVs X.K H2 acc accV ∧ st2 D = none ∧ Agr X.prog X.w X.K st2 H2 ∧ Stp (lockS st1 ls) H1 st2 H2 ∧
    lcL g mt me (wipeD ρ vs) (ds.drop i) acc st2 (fun acc st2 => ∀ p, unlockS st1 st2 ls p = none → Qd (.ref p) (put (unlockS st1 st2 ls) p (.lst acc))), ⟨ds.length, [], [], lockS st1 ls, by omega, Nat.le_refl _, upd_same, .nil, lock_none hD1, gl.new0 hD, Stp.new0 hD, by simpa using h1⟩, ?_⟩
  rintro i m H2 ⟨accV, acc, st2, hm, hacc, eD, rD, nD, g2, s2, h2⟩
  have hl := lock_stands g1 l1 s2
  have t2 : TupX X.K H1 H2 := s2.tup gl
  obtain ⟨yg, ys⟩ := y1 H2 hl t2
  by_cases hlt : i < ds.length
  · obtain ⟨go, yl⟩ := yg i hlt
    refine .inr ⟨go, fun H' => ∃ accV acc st2, acc.length ≤ i + 1 ∧ H' D = some (.lst accV) ∧ DVs X.K H' acc accV ∧ st2 D = none ∧ Agr X.prog X.w X.K st2 H' ∧ Stp (lockS st1 ls) H1 st2 H' ∧
      lcL g mt me (wipeD ρ vs) (ds.drop (i + 1)) acc st2 (fun acc st2 => ∀ p, unlockS st1 st2 ls p = none → Qd (.ref p) (put (unlockS st1 st2 ls) p (.lst acc))), fun H' ⟨b1, b2, b3, b4, b5, b6, b7, b8, b9, b10⟩ => ⟨m - 1, by omega, b1, b2, b3, by omega, b4, b5, b6, b7, b8, b9, b10⟩, fun x H3 hy => ?_⟩
    obtain ⟨hx, rx⟩ := yl x H3 hy
    obtain ⟨g3, s3⟩ := yld_step g2 hx
    rw [List.drop_eq_getElem_cons hlt] at h2
    have S3 : Sim X' E0 W0 (wipeD ρ vs) (wipe σ vs) st2 H3 := ⟨by rw [hK]; exact (wipeR (S.r.mono (s1.tup S.g)) vs).mono (t2) |>.mono (s3.tup g2), by rw [hP, hw, hK]; exact g3, fun _ _ _ _ _ z => z.elim⟩
    refine hg W0 _ x _ _ st2 H3 _ _ S3 (by rw [hK]; exact rx) h2 fun ρ4 σ4 st4 H4 h4 S4 s4 w4 => ⟨by rw [w4]; exact hww σ, ?_⟩
    have g4 : Agr X.prog X.w X.K st4 H4 := by rw [← hP, ← hw, ← hK]; exact S4.g
    refine ht W0 ρ4 σ4 st4 H4 _ _ S4 h4 fun bb st5 H5 h5 g5' s5 => ?_
    have g5 : Agr X.prog X.w X.K st5 H5 := by rw [← hP, ← hw, ← hK]; exact g5'
    have s25 : Stp st2 H2 st5 H5 := (s3.trans s4).trans s5
    have eD5 : H5 D = some (.lst accV) := s25.keep D _ eD nD
    have nD5 : st5 D = none := s25.dom D _ eD nD
    have rD5 : DVs X.K H5 acc accV := rD.mono (s25.tup g2)
    cases bb with
    | false => exact ⟨accV, acc, st5, by omega, eD5, rD5, nD5, g5, s2.trans s25, h5⟩
    | true =>
      refine he W0 ρ4 σ4 st5 H5 _ _ (S4.step g5' s5) h5 fun y st6 vy H6 h6 r6 g6' s6 => ?_
      have g6 : Agr X.prog X.w X.K st6 H6 := by rw [← hP, ← hw, ← hK]; exact g6'
      have r6' : DVr X.K H6 y vy := by rw [← hK]; exact r6
      have eD6 : H6 D = some (.lst accV) := s6.keep D _ eD5 nD5
      have nD6 : st6 D = none := s6.dom D _ eD5 nD5
      have rD6 : DVs X.K H6 acc accV := rD5.mono (s6.tup g5)
      have t7 : TupX X.K H6 (upd H6 D (.lst (accV ++ [vy]))) := tupX_upd fun xs z => by rcases z with z | ⟨o, z⟩ <;> · rw [eD6] at z; cases z
      refine ⟨accV, eD6, by rw [← rD6.length]; omega, accV ++ [vy], acc ++ [y], st6, by simp; omega, upd_same, (rD6.append (.cons r6' .nil)).mono t7, nD6, fun a o q => ?_, ?_, h6⟩
      · have na : a ≠ D := by rintro rfl; rw [nD6] at q; cases q
        exact (g6 a o q).mono t7 (upd_ne na)
      · have s26 := s2.trans (s25.trans s6)
        exact ⟨fun a o q n => by rw [upd_ne (ne_of_none q hD)]; exact s26.keep a o q n, s26.dom, fun a es o q n i => by
          rw [upd_ne (ne_of_none q hD)]; exact s26.ro a es o q n i, fun a z => s26.all a (upd_gone z)⟩
  · have e : i = ds.length := by omega
    subst e
    rw [List.drop_length] at h2
    have u := unlock_all g1 g2 s2
    refine .inl ⟨ys, k _ _ _ _ (h2 D (unlock_none hD1 nD)) (.ref D) (fun a o q => ?_) ?_⟩
    · by_cases ea : a = D
      · subst ea; rw [put_same] at q; cases q; exact ⟨accV, eD, rD⟩
      · rw [put_ne ea] at q; exact u.1 a o q
    · refine s1.trans ⟨u.2.keep, fun a o q n => ?_, fun a es o q n i => ⟨(u.2.ro a es o q n i).1, fun v z => ?_⟩, u.2.all⟩
      · rw [put_ne (ne_of_none q hD)]; exact u.2.dom a o q n
      · rw [put_ne (ne_of_none q hD)] at z; exact (u.2.ro a es o q n i).2 v z
/-- the readings as the deep semantics gives them, the same for all blocks -/
def rdE (X : Cx) (E : XK) (m : ME) : TE := fun σ H Q => ∃ W ρ st Qd, Sim X E W ρ σ st H ∧ m W ρ st Qd ∧ Cn X st H Qd Q
def rdT (X : Cx) (E : XK) (m : MT) : TT := fun σ H Q => ∃ W ρ st Qd, Sim X E W ρ σ st H ∧ m W ρ st Qd ∧ CnT X st H Qd Q
def rdG (X : Cx) (E : XK) (vs : List Nat) (g : MG) : TG := fun v σ H Q => ∃ W d ρ st Qd, Sim X E W ρ σ st H ∧ DVr X.K H d v ∧ g W d ρ st Qd ∧ (∀ ρ' σ' st' H', Qd ρ' st' → Sim X E W ρ' σ' st' H' → Stp st H st' H' → wipe σ' vs = wipe σ vs → Q σ' H')
section
variable {s0 : Shared} {H0 : Hp} {scope : Scope} {cenv : PySem.Env} {fp : List Addr}
theorem DE.pe {m : ME} (h : DE (X.blk s0 H0 scope cenv fp) E e m) : PE (X.blk s0 H0 scope cenv fp) e (rdE X E m) := by
  obtain ⟨t, p, q⟩ := h
  exact ⟨fun pins s σ H Q I ⟨W, ρ, st, Qd, S, h, k⟩ => p.run pins s σ H Q I (q W ρ σ st H Qd Q ⟨S.r, S.g, S.x⟩ h k)⟩
theorem DTs.pts {es : List Expr} {m : MT} (h : DTs (X.blk s0 H0 scope cenv fp) E es m) : PTs (X.blk s0 H0 scope cenv fp) es (rdT X E m) := by
  obtain ⟨t, p, q⟩ := h
  exact ⟨fun pins s σ H Q I ⟨W, ρ, st, Qd, S, h, k⟩ => p.run pins s σ H Q I (q W ρ σ st H Qd Q ⟨S.r, S.g, S.x⟩ h k)⟩
theorem DGw.pg {vs : List Nat} {g : MG} (h : DGw (X.blk s0 H0 scope cenv fp) E vs tg g) : PG (X.blk s0 H0 scope cenv fp) tg (rdG X E vs g) := by
  obtain ⟨t, p, q⟩ := h
  exact ⟨fun pins s σ H v u Q I r ⟨W, d, ρ, st, Qd, S, rd, h, k⟩ => p.run pins s σ H v u Q I r (q W d v ρ σ st H Qd Q ⟨S.r, S.g, S.x⟩ rd h fun ρ' σ' st' H' a b c d => k ρ' σ' st' H' a ⟨b.r, b.g, b.x⟩ c d)⟩
end
section
variable {elt iter : Expr} {ifs : List Expr} {scope : Scope} {own : List (Str × Nat)} {mi : MI} {g : MG} {mt : MT}
theorem de_lc (hc : X.calm = true) (hN : X.N.Nodup) (hi : DI X E tg iter mi) (ok : BlkOk X.N X.env.scope scope own)
    (hg : ∀ (s : Shared) (H : Hp) (C : Addr) (cl : List (Str × Addr)) (fp : List Addr), DGw (X.blk s H scope (compEnvC scope cl C X.env) fp) E0 (own.map (·.2)) tg g) (ht : ∀ (s : Shared) (H : Hp) (C : Addr) (cl : List (Str × Addr)) (fp : List Addr), DTs (X.blk s H scope (compEnvC scope cl C X.env) fp) E0 ifs mt)
    (he : ∀ (s : Shared) (H : Hp) (C : Addr) (cl : List (Str × Addr)) (fp : List Addr), DE (X.blk s H scope (compEnvC scope cl C X.env) fp) E0 elt me) (hs : ∀ x, foldedSetIterable iter X.env x = pure x := by intro _; rfl) :
    DE X E (.ListComp elt [⟨tg, iter, ifs, 0⟩] scope pos) (mLc mi g mt me (own.map (·.2))) := by
  obtain ⟨wi, pi, qi⟩ := hi
  refine ⟨_, pe_lc (g := rdG X E0 (own.map (·.2)) g) (tt := rdT X E0 mt) (te := rdE X E0 me) hc hN pi ok (fun s H C cl fp => (hg s H C cl fp).pg) (fun s H C cl fp => (ht s H C cl fp).pts) (fun s H C cl fp => (he s H C cl fp).pe) hs, ?_⟩
  exact lc_sound qi X rfl rfl rfl (fun W d v ρ σ st H Qd Q S r h k => ⟨W, d, ρ, st, Qd, S, r, h, k⟩) (fun W ρ σ st H Qd Q S h k => ⟨W, ρ, st, Qd, S, h, k⟩) (fun W ρ σ st H Qd Q S h k => ⟨W, ρ, st, Qd, S, h, k⟩)
/-- name = [..] on one line -/
theorem ds_setLc (i : Nat) {y : Str} {py spos : Pos} (hc : X.calm = true) (hN : X.N.Nodup) (hi : DI X E tg iter mi) (ok : BlkOk X.N X.env.scope scope own)
    (hg : ∀ (s : Shared) (H : Hp) (C : Addr) (cl : List (Str × Addr)) (fp : List Addr), DGw (X.blk s H scope (compEnvC scope cl C X.env) fp) E0 (own.map (·.2)) tg g) (ht : ∀ (s : Shared) (H : Hp) (C : Addr) (cl : List (Str × Addr)) (fp : List Addr), DTs (X.blk s H scope (compEnvC scope cl C X.env) fp) E0 ifs mt)
    (he : ∀ (s : Shared) (H : Hp) (C : Addr) (cl : List (Str × Addr)) (fp : List Addr), DE (X.blk s H scope (compEnvC scope cl C X.env) fp) E0 elt me)
    (hsw : swapsWith (.ListComp elt [⟨tg, iter, ifs, 0⟩] scope pos) (some (.Name y py)) spos.line X.env = pure true) (hy : X.N[i]? = some y := by rfl) (hyl : X.env.scope.names.lookup y = some .local := by rfl) (hs : ∀ x, foldedSetIterable iter X.env x = pure x := by intro _; rfl) :
    DS X E (.Assign [.Name y py] (.ListComp elt [⟨tg, iter, ifs, 0⟩] scope pos) spos) (sAsg (mLc mi g mt me (own.map (·.2))) (gNm i)) := by
  obtain ⟨wi, pi, qi⟩ := hi
  refine ⟨_, ps_setLc (g := rdG X E0 (own.map (·.2)) g) (tt := rdT X E0 mt) (te := rdE X E0 me) hc hN hy hyl hsw pi ok (fun s H C cl fp => (hg s H C cl fp).pg) (fun s H C cl fp => (ht s H C cl fp).pts) (fun s H C cl fp => (he s H C cl fp).pe) hs, fun W ρ σ st H Dd D S h R => ?_⟩
  refine lc_sound qi X rfl rfl rfl (fun W d v ρ σ st H Qd Q S r h k => ⟨W, d, ρ, st, Qd, S, r, h, k⟩) (fun W ρ σ st H Qd Q S h k => ⟨W, ρ, st, Qd, S, h, k⟩) (fun W ρ σ st H Qd Q S h k => ⟨W, ρ, st, Qd, S, h, k⟩) W ρ σ st H _ _ S h fun d st1 v1 H1 h1 r1 g1 s1 => ?_
  exact R.nx _ _ _ _ h1 ((S.step g1 s1).set r1) s1
end
end
end Sw

namespace Sw
open PySem PySem.Spec PyProof.Rows L2
/-- a def of the text, standing under its name -/
def Def (K : PySem.W.Frag) (mg : Str → Option Value) (x : Str) (s : Stmt) (ps : List Str) : Prop := ∃ f fd, Fun K x x s f fd ∧ mg x = some (.ref f) ∧ Binds K fd ps []
/-- a def that keeps its promise, called by its name -/
def Cal (P : Program) (w : World) (K : PySem.W.Frag) (mg : Str → Option Value) (base : Heap) (k : Nat) (x : Str) (ps : List Str) (sp : DSp) : Prop :=
  ∃ f fd, FnOk P w K mg base (CX P w) k f fd ps (spOf P w K sp) ∧ mg x = some (.ref f) ∧ PySem.W.keepIn K (.ref f) = true ∧ Binds K fd ps []
section
variable {P : Program} {w : World} {K : PySem.W.Frag} {mg : Str → Option Value} {base : Heap}
theorem Cal.mono {j k : Nat} {x : Str} {ps : List Str} {sp : DSp} (c : Cal P w K mg base j x ps sp) (h : j ≤ k) : Cal P w K mg base k x ps sp := let ⟨f, fd, F, a, b, d⟩ := c; ⟨f, fd, F.mono h, a, b, d⟩
theorem Cal.imp {k : Nat} {x : Str} {ps : List Str} {sp sp' : DSp} (c : Cal P w K mg base k x ps sp) (h : ∀ ds st Q W, sp' ds st Q W → sp ds st Q W) : Cal P w K mg base k x ps sp' :=
  let ⟨f, fd, F, a, b, d⟩ := c; ⟨f, fd, F.imp fun vs H Q E ⟨ds, st, Qd, W, x1, x2, x3, x4⟩ => ⟨ds, st, Qd, W, x1, x2, h _ _ _ _ x3, x4⟩, a, b, d⟩
/-- nothing can be asked -/
theorem cal_none {x : Str} {s : Stmt} {ps : List Str} {sp : DSp} (D : Def K mg x s ps) (h : ∀ ds st Q W, ¬ sp ds st Q W) : Cal P w K mg base 0 x ps sp := by
  obtain ⟨f, fd, F, a, b⟩ := D
  have no : ∀ vs H Q E, ¬ spOf P w K sp vs H Q E := fun vs H Q E ⟨ds, st, Qd, W, _, _, z, _⟩ => h _ _ _ _ z
  exact ⟨f, fd, ⟨fun vs H Q E z => absurd z (no vs H Q E), fun A outer s H args us vs Q E _ _ _ _ z => absurd z (no vs H Q E)⟩, a, F.kp, b⟩
theorem cal_ok {x : Str} {s : Stmt} {N ps : List Str} {k : Nat} {sp : DSp} {m : MS} (D : Def K mg x s ps) (S : FnScope N ps (defScope s))
    (hb : ∀ (f : Addr) (cdv : Value) (A : Around) (outer : List PySem.Env) (s0 : Shared) (H : Hp) (E : XK), Room k (A.deeper (envOfC x (defScope s) s0.heap.objs.size f cdv)) → DSs (cxOf (CX P w) P w K mg base N x (defScope s) f cdv A outer s0 H E) E (defBody s) m)
    (hsp : ∀ ds st Qd W, sp ds st Qd W → ds.length = ps.length ∧ m W { nx := fun _ st' => Rt Qd .non st', rt := Rt Qd } (startD N ds) st) : Cal P w K mg base (k + 1) x ps sp := by
  obtain ⟨f, fd, F, a, b⟩ := D
  exact ⟨f, fd, fn_ok F S (fun cdv A outer s0 H E hr => hb f cdv A outer s0 H E hr) hsp, a, F.kp, b⟩
end
section
variable {X : Cx} {E : XK} {e : Expr} {pos : Pos}
theorem de_c {j k : Nat} {ps : List Str} {sp : DSp} {x : Str} {p : Pos} {es : List Expr} {ms : MA} (c : Cal X.prog X.w X.K X.mg X.base j x ps sp) (hr : Room k X.A) (hx : Passes (CX X.prog X.w) X E) (ha : DA X E (e :: es) ms) (hk : j ≤ k := by first | assumption | omega | decide) (hg : Gl X x := by rfl)
    (hdb : (x == ("__debug__" : Str)) = false := by decide) (he : starEach (e :: es) X.env = (false, eval e X.env) :: starEach es X.env := by rfl) (hpl : (backTo pos (starEach es X.env)).any (·.1) = false := by rfl) :
    DE X E (.Call (.Name x p) (e :: es) [] pos) (mCall sp ms) := by
  obtain ⟨f, fd, F, a, b, d⟩ := c
  exact de_call F (hr.mono hk) a b d hx ha hg hdb he hpl
theorem de_c0 {j k : Nat} {ps : List Str} {sp : DSp} {x : Str} {p : Pos} (c : Cal X.prog X.w X.K X.mg X.base j x ps sp) (hr : Room k X.A) (hx : Passes (CX X.prog X.w) X E) (hk : j ≤ k := by first | assumption | omega | decide) (hg : Gl X x := by rfl)
    (hdb : (x == ("__debug__" : Str)) = false := by decide) : DE X E (.Call (.Name x p) [] [] pos) (mCall sp aNil) := by
  obtain ⟨f, fd, F, a, b, d⟩ := c
  exact de_call0 F (hr.mono hk) a b d hx hg hdb
/-- a built-in by its name -/
theorem de_b {id : String} {r : List V → Hp → VK → Prop} {f : DC} {x : Str} {p : Pos} {es : List Expr} {ms : MA} (hc : CallR X (.builtin id) r) (hd : DCal X r f) (hm : X.mg x = none) (hv : bootBuiltins x = some (.builtin id)) (ha : DA X E (e :: es) ms) (hg : Gl X x := by rfl)
    (hn : x ≠ "__name__" := by decide) (hdb : (x == ("__debug__" : Str)) = false := by decide) (hs : starEach (e :: es) X.env = (false, eval e X.env) :: starEach es X.env := by rfl) (hpl : (backTo pos (starEach es X.env)).any (·.1) = false := by rfl) : DE X E (.Call (.Name x p) (e :: es) [] pos) (mCal f ms) :=
  de_cal hd ha fun t pt => pe_callB hc hg hm hv pt hn hdb hs hpl
theorem de_ty {T : String} {r : List V → Hp → VK → Prop} {f : DC} {x : Str} {p : Pos} {es : List Expr} {ms : MA} (hc : CallR X (.type T) r) (hd : DCal X r f) (hm : X.mg x = none) (hv : bootBuiltins x = some (.type T)) (ha : DA X E (e :: es) ms) (hg : Gl X x := by rfl)
    (hn : x ≠ "__name__" := by decide) (hdb : (x == ("__debug__" : Str)) = false := by decide) (hs : starEach (e :: es) X.env = (false, eval e X.env) :: starEach es X.env := by rfl) (hpl : (backTo pos (starEach es X.env)).any (·.1) = false := by rfl) : DE X E (.Call (.Name x p) (e :: es) [] pos) (mCal f ms) :=
  de_cal hd ha fun t pt => pe_callTy hc hg hm hv pt hn hdb hs hpl
/-- a method of a list -/
theorem de_lm {name : Str} {id : String} {r : V → List V → Hp → VK → Prop} {f : DM} {o : Expr} {mo : ME} {es : List Expr} {ms : MA} {apos : Pos} (slot : Slot "list" name id) (hty : typeOf (.builtin id) = pure (.type "method_descriptor")) (hm : MtR X id r) (hd : DMet X "list" r f) (ho : DE X E o mo) (ha : DA X E (e :: es) ms)
    (hbase : attributeBase o name X.env (eval o X.env) = eval o X.env := by rfl)
    (hfew : ((backTo pos (starEach (e :: es) X.env)).all (fun x => !x.1) && (backToKw pos (keywordEach [] X.env)).all (fun x => x.1.isSome)
      && decide ((e :: es).length + ([] : List Keyword).length + (if ([] : List Keyword).isEmpty then 0 else 1) < 30)) = true := by rfl)
    (hline : (apos.endLine == pos.line) = true := by rfl) (hs : starEach (e :: es) X.env = (false, eval e X.env) :: starEach es X.env := by rfl) (hplain : (backTo pos (starEach es X.env)).any (·.1) = false := by rfl) :
    DE X E (.Call (.Attribute o name apos) (e :: es) [] pos) (mMet isLst f mo ms) :=
  de_met dty_list hd ho ha fun to t po pt => pe_bm PySem.F.plainAttrs_list slot hty hm po pt hbase hfew hline hs hplain
theorem de_lm0 {name : Str} {id : String} {r : V → List V → Hp → VK → Prop} {f : DM} {o : Expr} {mo : ME} {apos : Pos} (slot : Slot "list" name id) (hty : typeOf (.builtin id) = pure (.type "method_descriptor")) (hm : MtR X id r) (hd : DMet X "list" r f) (ho : DE X E o mo)
    (hbase : attributeBase o name X.env (eval o X.env) = eval o X.env := by rfl) (hline : (apos.endLine == pos.line) = true := by rfl) :
    DE X E (.Call (.Attribute o name apos) [] [] pos) (mMet isLst f mo aNil) :=
  de_met0 dty_list hd ho fun to po => pe_bm0 PySem.F.plainAttrs_list slot hty hm po hbase hline
end
end Sw

/-! The terms of a book, as data. -/
namespace Sw
open PySem PySem.Spec PyProof.Rows L2
inductive Wd where
  | set | add | copy | look | row | both | lend | wait
  deriving DecidableEq
def Wd.str : Wd → Str
  | .set => "set" | .add => "add" | .copy => "copy" | .look => "look" | .row => "row" | .both => "both" | .lend => "lend" | .wait => "wait"
/-- how many numbers stand ahead of the parts -/
def Wd.nums : Wd → Nat
  | .set => 2 | .add => 2 | .copy => 2 | .look => 1 | .row => 0 | .both => 0 | .lend => 1 | .wait => 1
def Wd.leaf : Wd → Bool
  | .set => true | .add => true | .copy => true | .wait => true | _ => false
def Wd.deed : Wd → Bool
  | .set => true | .add => true | .copy => true | .look => true | _ => false
theorem str_set (w : Wd) : (w.str = Str.ofString "set") = (w = .set) := by cases w <;> first | (exact propext ⟨fun _ => rfl, fun _ => rfl⟩) | (exact propext ⟨fun h => absurd h (by decide +kernel), fun h => nomatch h⟩)
theorem str_add (w : Wd) : (w.str = Str.ofString "add") = (w = .add) := by cases w <;> first | (exact propext ⟨fun _ => rfl, fun _ => rfl⟩) | (exact propext ⟨fun h => absurd h (by decide +kernel), fun h => nomatch h⟩)
theorem str_copy (w : Wd) : (w.str = Str.ofString "copy") = (w = .copy) := by cases w <;> first | (exact propext ⟨fun _ => rfl, fun _ => rfl⟩) | (exact propext ⟨fun h => absurd h (by decide +kernel), fun h => nomatch h⟩)
theorem str_look (w : Wd) : (w.str = Str.ofString "look") = (w = .look) := by cases w <;> first | (exact propext ⟨fun _ => rfl, fun _ => rfl⟩) | (exact propext ⟨fun h => absurd h (by decide +kernel), fun h => nomatch h⟩)
theorem str_row (w : Wd) : (w.str = Str.ofString "row") = (w = .row) := by cases w <;> first | (exact propext ⟨fun _ => rfl, fun _ => rfl⟩) | (exact propext ⟨fun h => absurd h (by decide +kernel), fun h => nomatch h⟩)
theorem str_both (w : Wd) : (w.str = Str.ofString "both") = (w = .both) := by cases w <;> first | (exact propext ⟨fun _ => rfl, fun _ => rfl⟩) | (exact propext ⟨fun h => absurd h (by decide +kernel), fun h => nomatch h⟩)
theorem str_lend (w : Wd) : (w.str = Str.ofString "lend") = (w = .lend) := by cases w <;> first | (exact propext ⟨fun _ => rfl, fun _ => rfl⟩) | (exact propext ⟨fun h => absurd h (by decide +kernel), fun h => nomatch h⟩)
theorem str_wait (w : Wd) : (w.str = Str.ofString "wait") = (w = .wait) := by cases w <;> first | (exact propext ⟨fun _ => rfl, fun _ => rfl⟩) | (exact propext ⟨fun h => absurd h (by decide +kernel), fun h => nomatch h⟩)
inductive Tm where
  | mk (w : Wd) (ns : List Int) (ps : List Tm)
def Tm.w : Tm → Wd | .mk w _ _ => w
def Tm.ns : Tm → List Int | .mk _ ns _ => ns
def Tm.ps : Tm → List Tm | .mk _ _ ps => ps
mutual
def enc : Tm → DV
  | .mk w ns ps => .tup (.str w.str :: (ns.map DV.int ++ encs ps))
def encs : List Tm → List DV
  | [] => []
  | t :: r => enc t :: encs r
end
theorem encs_map (ts : List Tm) : encs ts = ts.map enc := by
  induction ts with
  | nil => rfl
  | cons t r ih => simp [encs, ih]
/-! made as a term, as far as the numbers and the parts go -/
mutual
def Ok : Tm → Prop
  | .mk w ns ps => ns.length = w.nums ∧ (w.leaf = true → ps = []) ∧ OkL ps
def OkL : List Tm → Prop
  | [] => True
  | t :: r => Ok t ∧ OkL r
end
mutual
def size : Tm → Nat
  | .mk _ _ ps => sizeL ps + 1
def sizeL : List Tm → Nat
  | [] => 0
  | t :: r => size t + sizeL r
end
/-! how many levels of terms -/
mutual
def high : Tm → Nat
  | .mk _ _ ps => highL ps + 1
def highL : List Tm → Nat
  | [] => 0
  | t :: r => max (high t) (highL r)
end
abbrev Place := List Int
def encP (p : Place) : DV := .tup (p.map DV.int)
mutual
def placesIn : Tm → Place → List Place
  | .mk _ _ ps, p => p :: placesL ps 0 p
def placesL : List Tm → Nat → Place → List Place
  | [], _, _ => []
  | t :: r, k, p => placesIn t (p ++ [(k : Int)]) ++ placesL r (k + 1) p
end
mutual
theorem placesIn_length : ∀ (t : Tm) (p : Place), (placesIn t p).length = size t
  | .mk _ _ ps, p => by rw [placesIn, size, List.length_cons, placesL_length]
theorem placesL_length : ∀ (ts : List Tm) (k : Nat) (p : Place), (placesL ts k p).length = sizeL ts
  | [], k, p => rfl
  | t :: r, k, p => by rw [placesL, sizeL, List.length_append, placesIn_length, placesL_length]
end
end Sw

namespace Sw
open PySem PySem.Spec PyProof.Rows L2
theorem atI_0 {α : Type} (x : α) (xs : List α) : atI (x :: xs) 0 = some x := atI_nat (j := 0) rfl
theorem atI_1 {α : Type} (x y : α) (xs : List α) : atI (x :: y :: xs) 1 = some y := atI_nat (j := 1) rfl
theorem atI_2 {α : Type} (x y z : α) (xs : List α) : atI (x :: y :: z :: xs) 2 = some z := atI_nat (j := 2) rfl
theorem atI_3 {α : Type} (x y z u : α) (xs : List α) : atI (x :: y :: z :: u :: xs) 3 = some u := atI_nat (j := 3) rfl
theorem cut_1 (ds : List DV) : cutD ds (some 1) none = ds.drop 1 := cutD_from ds 1
theorem cut_2 (ds : List DV) : cutD ds (some 2) none = ds.drop 2 := cutD_from ds 2
theorem small {n : Nat} (h : n ≤ 100000) : n ≤ sizeLine := Nat.le_trans h (by decide)
theorem smallL {n : Nat} (h : n < 100000) : n < sizeLine := Nat.lt_of_lt_of_le h (by decide)
/-! loops -/
theorem forL_by {W : XD} {g : MG} {m : MS} {D : DEnds} (I : List DV → Rho → Sto → Prop)
    (hs : ∀ d r ρ st, I (d :: r) ρ st → (∀ ρ2 st2, I r ρ2 st2 → forL W g m D r ρ2 st2) → g W d ρ st fun ρ1 st1 => m W { D with nx := fun ρ2 st2 => forL W g m D r ρ2 st2, ct := fun ρ2 st2 => forL W g m D r ρ2 st2, bk := D.nx } ρ1 st1)
    (hd : ∀ ρ st, I [] ρ st → D.nx ρ st) : ∀ ds ρ st, I ds ρ st → forL W g m D ds ρ st
  | [], ρ, st, h => hd ρ st h
  | d :: r, ρ, st, h => hs d r ρ st h fun ρ2 st2 h2 => forL_by I hs hd r ρ2 st2 h2
theorem lcL_by {g : MG} {mt : MT} {me : ME} {ρ : Rho} {Q : List DV → Sto → Prop} (I : List DV → List DV → Sto → Prop)
    (hs : ∀ d r acc st, I (d :: r) acc st → (∀ acc2 st2, I r acc2 st2 → lcL g mt me ρ r acc2 st2 Q) → g W0 d ρ st fun ρ1 st1 => mt W0 ρ1 st1 fun b st2 => if b = true then me W0 ρ1 st2 fun x st3 => lcL g mt me ρ r (acc ++ [x]) st3 Q else lcL g mt me ρ r acc st2 Q)
    (hd : ∀ acc st, I [] acc st → Q acc st) : ∀ ds acc st, I ds acc st → lcL g mt me ρ ds acc st Q
  | [], acc, st, h => hd acc st h
  | d :: r, acc, st, h => hs d r acc st h fun acc2 st2 h2 => lcL_by I hs hd r acc2 st2 h2
/-- one turn of a comprehension -/
def stepC (g : MG) (mt : MT) (me : ME) (ρ : Rho) (d : DV) (st : Sto) (R : Option DV → Sto → Prop) : Prop := g W0 d ρ st fun ρ1 st1 => mt W0 ρ1 st1 fun b st2 => if b = true then me W0 ρ1 st2 fun x st3 => R (some x) st3 else R none st2
/-- each turn leaves the store as it is -/
theorem lcL_pure {g : MG} {mt : MT} {me : ME} {ρ : Rho} {st : Sto} {Q : List DV → Sto → Prop} (f : DV → Option DV) : ∀ (ds acc : List DV),
    (∀ d ∈ ds, ∀ R, R (f d) st → stepC g mt me ρ d st R) → Q (acc ++ ds.filterMap f) st → lcL g mt me ρ ds acc st Q
  | [], acc, _, q => by show Q acc st; simpa using q
  | d :: r, acc, h, q => by
    have h1 := h d (by simp) (fun o st => match o with | some x => lcL g mt me ρ r (acc ++ [x]) st Q | none => lcL g mt me ρ r acc st Q)
    have h2 : stepC g mt me ρ d st (fun o st => match o with | some x => lcL g mt me ρ r (acc ++ [x]) st Q | none => lcL g mt me ρ r acc st Q) → lcL g mt me ρ (d :: r) acc st Q := fun z => z
    apply h2
    apply h1
    cases e : f d with
    | none => exact lcL_pure f r acc (fun d hd => h d (by simp [hd])) (by simpa [e] using q)
    | some x => exact lcL_pure f r (acc ++ [x]) (fun d hd => h d (by simp [hd])) (by simpa [e] using q)
/-! stores -/
theorem Rt.of {Q : DV → Sto → Prop} {d : DV} {st : Sto} (h : Q d st) : Rt Q d st := ⟨st, Sub.refl _, h⟩
theorem ne_put {st : Sto} {a b : Addr} {o : Ob} (h : put st a o b = none) : b ≠ a ∧ st b = none := by
  unfold put at h; split at h
  · cases h
  · exact ⟨by assumption, h⟩
theorem ne_some {st : Sto} {a b : Addr} {o : Ob} (h : st a = some o) (h' : st b = none) : a ≠ b := by rintro rfl; rw [h] at h'; cases h'
theorem ok_mem : ∀ {ts : List Tm}, OkL ts → ∀ t ∈ ts, Ok t
  | _ :: _, ⟨a, b⟩, t, h => by
    rcases List.mem_cons.mp h with rfl | h
    · exact a
    · exact ok_mem b t h
theorem encs_length (ts : List Tm) : (encs ts).length = ts.length := by simp [encs_map]
end Sw

namespace Sw
open PySem PySem.Spec PyProof.Rows L2
section
variable {X : Cx} {E : XK} {a b c e : Expr} {ma mb mc me : ME} {pos : Pos}
theorem units65 {k : Nat} {A : Around} (r : Room k A) : A.units + 65 < cLine := by have := r.un; omega
/-! ### a module's constant -/
def GC (K : PySem.W.Frag) (mg : Str → Option Value) (x : Str) (d : DV) : Prop := ∃ v u, mg x = some u ∧ RelV v u ∧ ∀ H, DVr K H d v
theorem de_g {x : Str} {d : DV} (c : GC X.K X.mg x d) (hg : Gl X x := by rfl) (hb : (x == ("__debug__" : Str)) = false := by decide) : DE X E (.Name x pos) (mC d) := by
  obtain ⟨v, u, h1, h2, h3⟩ := c
  exact de_glob hg h1 h2 h3 hb
/-! ### -x -/
def mNeg (m : ME) : ME := fun W ρ st Q => m W ρ st fun d st1 => match d with | .int i => Q (.int (-i)) st1 | _ => False
theorem de_neg (h : DE X E a ma) : DE X E (.UnaryOp .USub a pos) (mNeg ma) := by
  obtain ⟨t, p, q⟩ := h
  refine ⟨_, pe_un un_neg p, fun W ρ σ st H Qd Q S h k => ?_⟩
  refine q W ρ σ st H _ _ S h fun d st1 v H1 h1 r1 g1 s1 => ?_
  cases r1 <;> try exact h1.elim
  exact ⟨_, rfl, k _ _ _ _ h1 (.int _) g1 s1⟩
/-! ### not in -/
def rNotInU (K : PySem.W.Frag) : R2 := fun x y H Q => rIn K true x y H Q ∨ rNotInD K x y H Q ∨ (∃ (c : Nat) (z : Str), x = .str ⟨#[c]⟩ ∧ y = .str z ∧ Q (.bl (!decide (c ∈ z.cps.toList))) H)
theorem op_notInU (hu : X.A.units + 65 < cLine) : OpR X (compareOp .NotIn) (rNotInU X.K) := op_notIn_seq.or ((op_notInD hu).or op_notIn_sign)
theorem dop_notIn : DOp X (rNotInU X.K) (inD true) := by
  intro x y vx vy st H Qd Q g rx ry h k
  cases ry <;> try exact h.elim
  · rename_i z
    simp only [inD] at h
    split at h
    · rename_i c
      split at h
      · rename_i q e
        cases rx
        refine .inr (.inr ⟨q, z, ?_, rfl, k.at g (by simpa using h) (.bl _)⟩)
        have : c = ⟨#[q]⟩ := by cases c; rename_i cs; simp only at e; congr 1; exact Array.ext' (by simpa using e)
        rw [this]
      · exact h.elim
    · exact h.elim
  · rename_i a xs ds hq hs
    simp only [inD] at h
    split at h
    · rename_i v vs e1 e2
      obtain ⟨a1, a2⟩ := flatD_of rx e1
      obtain ⟨b1, b2⟩ := flatsD_of hs e2
      subst a1 b1
      exact .inl ⟨a, _, rfl, .inr hq, a2, b2, k.at g (by simpa using h) (.bl _)⟩
    · exact h.elim
  · rename_i a
    simp only [inD] at h
    split at h
    · rename_i ds q
      obtain ⟨xs, hq, hs⟩ := lstAt_sq g q
      split at h
      · rename_i v vs e1 e2
        obtain ⟨a1, a2⟩ := flatD_of rx e1
        obtain ⟨b1, b2⟩ := flatsD_of hs e2
        subst a1 b1
        exact .inl ⟨a, _, rfl, .inl hq, a2, b2, k.at g (by simpa using h) (.bl _)⟩
      · obtain ⟨z, ⟨d, es, h1, h2, h3, h4, rfl⟩, h5⟩ := h
        exact .inr (.inl ⟨d, es, h1.dp g rx, .lst hq (h2.dp g hs), h3, h4, k.at g (by simpa using h5) (.bl _)⟩)
    · exact h.elim
/-! ### isinstance(x, T), T a built-in type by its name -/
inductive Ty where
  | non | bool | int | str | tuple | list | dict
  deriving DecidableEq
def Ty.nm : Ty → String
  | .non => "NoneType" | .bool => "bool" | .int => "int" | .str => "str" | .tuple => "tuple" | .list => "list" | .dict => "dict"
def Ty.isa (t T : Ty) : Bool := decide (t = T) || (decide (t = .bool) && decide (T = .int))
theorem kit_all {K : PySem.W.Frag} (t T : Ty) (h : T ≠ .non) : PySem.W.kitOne K (.type t.nm) (.type T.nm) = some (t.isa T) := by
  cases T <;> first | exact absurd rfl h | (cases t <;> exact kit_ty (by decide +kernel))
def tyOf (st : Sto) : DV → Option Ty
  | .non => some .non
  | .bl _ => some .bool
  | .int _ => some .int
  | .str _ => some .str
  | .tup _ => some .tuple
  | .ref a => match st a with
    | some (.lst _) => some .list
    | some (.rol _) => some .list
    | some (.dck _) => some .dict
    | _ => none
theorem tyOf_is {K : PySem.W.Frag} {P : Program} {w : World} {st : Sto} {H : Hp} (g : Agr P w K st H) {d : DV} {v : V} {t : Ty} (r : DVr K H d v) (h : tyOf st d = some t) : TyX K H v (.type t.nm) := by
  cases r with
  | non => cases h; exact .base .non
  | bl b => cases h; exact .base (.bl b)
  | int i => cases h; exact .base (.int i)
  | str i => cases h; exact .base (.str i)
  | tup hq hs =>
    cases h
    rcases hq with (hq | ⟨o, hq⟩) | ⟨o, its, n, h1, h2, _⟩
    · exact .base (.tup hq)
    · exact .fTuple hq
    · exact .kTuple h1 h2
  | ref a =>
    simp only [tyOf] at h
    split at h
    · rename_i q; cases h; obtain ⟨xs, e, _⟩ := g a _ q; exact .base (.lst e)
    · rename_i q; cases h; obtain ⟨xs, e | ⟨o, e⟩, _⟩ := g a _ q
      · exact .base (.lst e)
      · exact .base (.frz e)
    · rename_i q; cases h; obtain ⟨xs, e, _⟩ := g a _ q; exact .base (.dK e)
    · cases h
def mIsi (T : Ty) (m : ME) : ME := fun W ρ st Q => m W ρ st fun d st1 => match tyOf st1 d with | some t => Q (.bl (t.isa T)) st1 | none => False
theorem de_isi (T : Ty) {x : Str} {p p1 : Pos} (hi : X.mg "isinstance" = none) (hm : X.mg x = none) (h : DE X E e me) (hv : bootBuiltins x = some (.type T.nm)) (hT : T ≠ .non := by decide) (hg : Gl X "isinstance" := by rfl) (hgx : Gl X x := by rfl) (hn : x ≠ "__name__" := by decide) (hd : (x == ("__debug__" : Str)) = false := by decide)
    (hs : starEach [e, .Name x p1] X.env = (false, eval e X.env) :: starEach [.Name x p1] X.env := by rfl) (hs1 : starEach [.Name x p1] X.env = (false, eval (.Name x p1) X.env) :: starEach [] X.env := by rfl) (hpl : (backTo pos (starEach [.Name x p1] X.env)).any (·.1) = false := by rfl) :
    DE X E (.Call (.Name "isinstance" p) [e, .Name x p1] [] pos) (mIsi T me) := by
  obtain ⟨t, pt, q⟩ := h
  refine ⟨_, pe_callB call_isi hg hi (by decide +kernel) (pa_cons pt (pa_cons (pe_bltn hgx hm hv (v := .ty T.nm) rfl hn hd) pa_nil hs1) hs) (by decide) (by decide) hs hpl, fun W ρ σ st H Qd Q S h k => ?_⟩
  refine q W ρ σ st H _ _ S h fun d st1 v H1 h1 r1 g1 s1 => ?_
  split at h1
  · rename_i ty e1
    exact ⟨v, .ty T.nm, _, _, _, rfl, .ty _, tyOf_is g1 r1 e1, kit_all ty T hT, k _ _ _ _ h1 (.bl _) g1 s1⟩
  · exact h1.elim
/-! ### dicts with text keys -/
def lookK (kvs : List (Key × DV)) (k : Key) : Option DV := (kvs.find? fun kv => decide (kv.1 = k)).map (·.2)
theorem lookK_V {K : PySem.W.Frag} {H : Hp} {k : Key} : ∀ {kvs : List (Key × DV)} {kvs' : List (Key × V)}, Paired (fun (p : Key × DV) (q : Key × V) => p.1 = q.1 ∧ DVr K H p.2 q.2) kvs kvs' → ∀ {d : DV}, lookK kvs k = some d → ∃ v, valV kvs' k = some v ∧ DVr K H d v
  | _, _, .nil, d, h => by cases h
  | p :: ps, q :: qs, .cons r t, d, h => by
    by_cases e : p.1 = k
    · have : lookK (p :: ps) k = some p.2 := by simp [lookK, List.find?_cons, e]
      rw [this] at h; cases h
      exact ⟨q.2, valV_pos (r.1 ▸ e), r.2⟩
    · have : lookK (p :: ps) k = lookK ps k := by simp only [lookK, List.find?_cons, decide_eq_false e]
      rw [this] at h
      obtain ⟨v, e1, e2⟩ := lookK_V t h
      exact ⟨v, by rw [valV_neg (fun z => e (r.1.trans z))]; exact e1, e2⟩
def keyK : DV → Option Key
  | .int i => some (.inl i)
  | .str x => some (.inr x)
  | _ => none
theorem keyK_V {K : PySem.W.Frag} {H : Hp} {d : DV} {v : V} {k : Key} (r : DVr K H d v) (h : keyK d = some k) : v = kV k := by
  cases r <;> cases h <;> rfl
def mDgetK (mo mi : ME) : ME := fun W ρ st Q => mo W ρ st fun x st1 => mi W ρ st1 fun y st2 => match x with
  | .ref a => (match st2 a, keyK y with
    | some (.dck kvs), some k => (match lookK kvs k with | some d => Q d st2 | none => False)
    | _, _ => False)
  | _ => False
theorem de_dget {o i : Expr} {mo mi : ME} (hu : X.A.units + 1 < cLine) (ho : DE X E o mo) (hi : DE X E i mi) (hs : NoSl i := by intro _ _; rfl) : DE X E (.Subscript o i pos) (mDgetK mo mi) := by
  obtain ⟨to, po, qo⟩ := ho
  obtain ⟨ti, pi, qi⟩ := hi
  refine ⟨_, pe_dget hu po pi hs, fun W ρ σ st H Qd Q S h k => ?_⟩
  refine qo W ρ σ st H _ _ S h fun x st1 v1 H1 h1 r1 g1 s1 => ?_
  refine qi W ρ σ st1 H1 _ _ (S.step g1 s1) h1 fun y st2 v2 H2 h2 r2 g2 s2 => ?_
  cases r1 <;> try exact h2.elim
  rename_i a
  simp only at h2
  split at h2
  · rename_i kvs ky e1 e2
    split at h2
    · rename_i d e3
      obtain ⟨kvs', f1, f2⟩ := g2 a _ e1
      obtain ⟨v, f3, f4⟩ := lookK_V f2 e3
      have f5 := keyK_V r2 e2
      subst f5
      exact ⟨a, v, rfl, f3 ▸ DGet.k f1, k _ _ _ _ h2 f4 g2 (s1.trans s2)⟩
    · exact h2.elim
  · exact h2.elim
/-- a display -/
abbrev MP := XD → Rho → Sto → (List (DV × DV) → Sto → Prop) → Prop
def DPs (X : Cx) (E : XK) (pos : Pos) (keys : List (Option Expr)) (values : List Expr) (m : MP) : Prop := ∃ trs, PPs X pos keys values trs ∧ ∀ W ρ σ st H Qd Q, Sim X E W ρ σ st H → m W ρ st Qd →
  (∀ ps st' vs H', Qd ps st' → Paired (fun (p : DV × DV) (q : V × V) => DVr X.K H' p.1 q.1 ∧ DVr X.K H' p.2 q.2) ps vs → Agr X.prog X.w X.K st' H' → Stp st H st' H' → Q vs H') → tPairs trs σ H Q
def pNil : MP := fun _ _ st Q => Q [] st
def pCons (mk mv : ME) (r : MP) : MP := fun W ρ st Q => mk W ρ st fun x st1 => mv W ρ st1 fun y st2 => r W ρ st2 fun ps st3 => Q ((x, y) :: ps) st3
theorem dps_nil : DPs X E pos [] [] pNil := ⟨[], pps_nil, fun W ρ σ st H Qd Q S h k => k _ _ _ _ h .nil S.g (.refl _ _)⟩
theorem dps_cons {k v : Expr} {ks : List (Option Expr)} {vs : List Expr} {mk mv : ME} {mr : MP} (hk : DE X E k mk) (hv : DE X E v mv) (hr : DPs X E pos ks vs mr) : DPs X E pos (some k :: ks) (v :: vs) (pCons mk mv mr) := by
  obtain ⟨tk, pk, qk⟩ := hk
  obtain ⟨tv, pv', qv⟩ := hv
  obtain ⟨trs, pr, qr⟩ := hr
  refine ⟨_, pps_cons pk pv' pr, fun W ρ σ st H Qd Q S h k => ?_⟩
  refine qk W ρ σ st H _ _ S h fun x st1 v1 H1 h1 r1 g1 s1 => ?_
  refine qv W ρ σ st1 H1 _ _ (S.step g1 s1) h1 fun y st2 v2 H2 h2 r2 g2 s2 => ?_
  refine qr W ρ σ st2 H2 _ _ ((S.step g1 s1).step g2 s2) h2 fun ps st3 vs H3 h3 r3 g3 s3 => ?_
  exact k _ _ _ _ h3 (.cons ⟨(r1.mono (s2.tup g1)).mono (s3.tup g2), r2.mono (s3.tup g2)⟩ r3) g3 ((s1.trans s2).trans s3)
def keysK : List (DV × DV) → Option (List (Key × DV))
  | [] => some []
  | (d, e) :: r => match keyK d, keysK r with
    | some k, some kvs => some ((k, e) :: kvs)
    | _, _ => none
theorem keysK_V {K : PySem.W.Frag} {H : Hp} : ∀ {ps : List (DV × DV)} {vs : List (V × V)}, Paired (fun (p : DV × DV) (q : V × V) => DVr K H p.1 q.1 ∧ DVr K H p.2 q.2) ps vs → ∀ {kvs : List (Key × DV)}, keysK ps = some kvs →
    ∃ kvs' : List (Key × V), vs = kvs'.map (fun kv => (kV kv.1, kv.2)) ∧ kvs'.map (·.1) = kvs.map (·.1) ∧ Paired (fun (p : Key × DV) (q : Key × V) => p.1 = q.1 ∧ DVr K H p.2 q.2) kvs kvs'
  | _, _, .nil, kvs, h => by cases h; exact ⟨[], rfl, rfl, .nil⟩
  | _, _, .cons (a := (d, e)) (b := (v, u)) r t, kvs, h => by
    unfold keysK at h
    split at h
    · rename_i k kr e1 e2
      cases h
      obtain ⟨kvs', f1, f2, f3⟩ := keysK_V t e2
      have := keyK_V r.1 e1
      simp only at this
      subst this
      exact ⟨(k, u) :: kvs', by rw [f1]; rfl, by simp [f2], .cons ⟨rfl, r.2⟩ f3⟩
    · cases h
theorem merge_nodup : ∀ (kvs acc : List (Key × V)), (acc ++ kvs).map (·.1) |>.Nodup → mergeK acc kvs = acc ++ kvs
  | [], acc, _ => by simp [mergeK]
  | (k, v) :: r, acc, h => by
    have hn : (acc.any fun kv => decide (kv.1 = k)) = false := by
      rw [List.any_eq_false]
      intro x hx
      simp only [decide_eq_true_eq]
      intro e
      rw [List.map_append, List.map_cons, List.nodup_append] at h
      exact h.2.2 _ (List.mem_map.mpr ⟨x, hx, rfl⟩) k (by simp) e
    have e : putK acc k v = acc ++ [(k, v)] := by unfold putK; rw [hn]; rfl
    have ih := merge_nodup r (acc ++ [(k, v)]) (by simpa using h)
    show mergeK (putK acc k v) r = _
    rw [e, ih]; simp
def mDisp (m : MP) : ME := fun W ρ st Q => m W ρ st fun ps st1 => match keysK ps with
  | some kvs => (kvs.length ≤ 15 ∧ (kvs.map (·.1)).Nodup) ∧ ∀ p, st1 p = none → Q (.ref p) (put st1 p (.dck kvs))
  | none => False
theorem de_ddisp {keys : List (Option Expr)} {values : List Expr} {m : MP} (h : DPs X E pos keys values m) (hall : keys.all (·.isSome) = true := by rfl) (hl : keys.length = values.length := by rfl) (h0 : keys ≠ [] := by exact fun z => nomatch z) (h15 : keys.length ≤ 15 := by decide) : DE X E (.Dict keys values pos) (mDisp m) := by
  obtain ⟨trs, p, q⟩ := h
  refine ⟨_, pe_disp p hall hl h0 h15, fun W ρ σ st H Qd Q S h k p hp => ?_⟩
  have np : st p = none := S.g.free hp
  have S1 := S.step (S.g.new0 (o := .dK []) hp) (Stp.new0 hp)
  refine q W ρ σ st _ _ _ S1 h fun ps st1 vs H1 h1 r1 g1 s1 => ?_
  have eD : H1 p = some (.dK []) := s1.keep p _ upd_same np
  have nD : st1 p = none := s1.dom p _ upd_same np
  refine ⟨eD, ?_⟩
  split at h1
  · rename_i kvs e1
    obtain ⟨kvs', f1, f2, f3⟩ := keysK_V r1 e1
    have hlen : kvs'.length = kvs.length := by simpa using congrArg List.length f2
    refine ⟨kvs', f1, by rw [hlen]; exact h1.1.1, ?_⟩
    rw [merge_nodup kvs' [] (by rw [List.nil_append, f2]; exact h1.1.2), List.nil_append]
    have t : TupX X.K H1 (upd H1 p (.dK kvs')) := tupX_upd fun xs z => by rcases z with z | ⟨o, z⟩ <;> · rw [eD] at z; cases z
    refine k _ _ _ _ (h1.2 p nD) (.ref p) (fun a o q => ?_) ⟨fun a o q n => ?_, fun a o q n => ?_, fun a es o q n i => ?_, fun a z => upd_gone (s1.all a (upd_gone z))⟩
    · by_cases ea : a = p
      · subst ea; rw [put_same] at q; cases q; exact ⟨kvs', upd_same, Paired.mapP f3 fun _ _ z => ⟨z.1, z.2.mono t⟩⟩
      · rw [put_ne ea] at q; exact (g1 a o q).mono t (upd_ne ea)
    · have na := ne_of_none q hp
      rw [upd_ne na]; exact s1.keep a o (by rw [upd_ne na]; exact q) n
    · have na := ne_of_none q hp
      rw [put_ne na]; exact s1.dom a o (by rw [upd_ne na]; exact q) n
    · have na := ne_of_none q hp
      rw [upd_ne na, put_ne na]
      exact s1.ro a es o (by rw [upd_ne na]; exact q) n i
  · exact h1.elim
end
end Sw

/-! Books: what is made as one. -/
namespace Sw
open PySem PySem.Spec PyProof.Rows L2
def numsOk (c : Int) : Wd → List Int → Bool
  | .set, [x, v] => decide (0 ≤ x) && decide (x < c) && decide (0 ≤ v) && decide (v < 10)
  | .add, [x, y] => decide (0 ≤ x) && decide (x < c) && decide (0 ≤ y) && decide (y < c)
  | .copy, [x, y] => decide (0 ≤ x) && decide (x < c) && decide (0 ≤ y) && decide (y < c)
  | .look, [x] => decide (0 ≤ x) && decide (x < c)
  | .row, [] => true
  | .both, [] => true
  | .lend, [h] => decide (0 ≤ h) && decide (h < 10)
  | .wait, [h] => decide (0 ≤ h) && decide (h < 10)
  | _, _ => false
def partsN : Wd → Nat → Bool
  | .look, n => n == 2
  | .lend, n => n == 1
  | .row, n => n ≤ 6
  | .both, n => 2 ≤ n && n ≤ 4
  | _, n => n == 0
mutual
def Made (c : Int) : Tm → Prop
  | .mk w ns ps => numsOk c w ns = true ∧ partsN w ps.length = true ∧ MadeL c ps
def MadeL (c : Int) : List Tm → Prop
  | [] => True
  | t :: r => Made c t ∧ MadeL c r
end
mutual
def lent : Tm → List Int
  | .mk w ns ps => (if w = .lend then ns else []) ++ lentL ps
def lentL : List Tm → List Int
  | [] => []
  | t :: r => lent t ++ lentL r
end
mutual
/-- each wait in a term is for an h that is around -/
def waits : Tm → List Int → Bool
  | .mk w ns ps, ar => if w = .wait then ns.all (fun h => decide (h ∈ ar)) else waitsL (decide (w = .row)) ps (if w = .look then [] else ar)
def waitsL : Bool → List Tm → List Int → Bool
  | _, [], _ => true
  | b, t :: r, ar => waits t ar && waitsL b r (if b && decide (t.w = .lend) then ar ++ t.ns else ar)
end
theorem numsOk_len {c : Int} {w : Wd} {ns : List Int} (h : numsOk c w ns = true) : ns.length = w.nums := by
  unfold numsOk at h
  split at h <;> first | rfl | cases h
theorem partsN_leaf {w : Wd} {n : Nat} (h : partsN w n = true) (hl : w.leaf = true) : n = 0 := by
  cases w <;> simp [Wd.leaf] at hl <;> simpa [partsN] using h
mutual
theorem Made.ok {c : Int} : ∀ {t : Tm}, Made c t → Ok t
  | .mk w ns ps, ⟨h1, h2, h3⟩ => ⟨numsOk_len h1, fun hl => List.length_eq_zero_iff.mp (partsN_leaf h2 hl), MadeL.ok h3⟩
theorem MadeL.ok {c : Int} : ∀ {ts : List Tm}, MadeL c ts → OkL ts
  | [], _ => trivial
  | _ :: _, ⟨h1, h2⟩ => ⟨Made.ok h1, MadeL.ok h2⟩
end
structure Bk (c : Int) (t : Tm) : Prop where
  c1 : 1 ≤ c
  c6 : c ≤ 6
  made : Made c t
  waits : waits t [] = true
  lent : (lent t).Nodup
  size : size t ≤ 60
  high : high t ≤ 13
def encB (c : Int) (t : Tm) : DV := .tup [.int c, enc t]
theorem madeL_append {c : Int} : ∀ {ts us : List Tm}, MadeL c ts → MadeL c us → MadeL c (ts ++ us)
  | [], _, _, h => h
  | _ :: _, _, ⟨a, b⟩, h => ⟨a, madeL_append b h⟩
theorem lentL_append : ∀ (ts us : List Tm), lentL (ts ++ us) = lentL ts ++ lentL us
  | [], _ => rfl
  | t :: ts, us => by simp [lentL, lentL_append ts us]
theorem sizeL_append : ∀ (ts us : List Tm), sizeL (ts ++ us) = sizeL ts + sizeL us
  | [], _ => by simp [sizeL]
  | t :: ts, us => by simp [sizeL, sizeL_append ts us]; omega
theorem highL_append : ∀ (ts us : List Tm), highL (ts ++ us) = max (highL ts) (highL us)
  | [], _ => by simp [highL]
  | t :: ts, us => by simp [highL, highL_append ts us]
/-- what is around behind the parts of a row -/
def aroundL : List Tm → List Int → List Int
  | [], ar => ar
  | t :: r, ar => aroundL r (if t.w = .lend then ar ++ t.ns else ar)
theorem waitsL_append_row : ∀ (ts us : List Tm) (ar : List Int), waitsL true (ts ++ us) ar = (waitsL true ts ar && waitsL true us (aroundL ts ar))
  | [], _, _ => by simp [waitsL, aroundL]
  | t :: ts, us, ar => by
    simp only [List.cons_append, waitsL, aroundL, Bool.true_and, decide_eq_true_eq]
    rw [waitsL_append_row ts us, Bool.and_assoc]
theorem waitsL_append_any : ∀ (ts us : List Tm) (ar : List Int), waitsL false (ts ++ us) ar = (waitsL false ts ar && waitsL false us ar)
  | [], _, _ => by simp [waitsL]
  | t :: ts, us, ar => by
    simp only [List.cons_append, waitsL, Bool.false_and, Bool.false_eq_true, if_false]
    rw [waitsL_append_any ts us, Bool.and_assoc]
theorem aroundL_append : ∀ (ts us : List Tm) (ar : List Int), aroundL (ts ++ us) ar = aroundL us (aroundL ts ar)
  | [], _, _ => rfl
  | t :: ts, us, ar => by simp only [List.cons_append, aroundL]; exact aroundL_append ts us _
end Sw

/-! == of data: numbers, texts, tuples of these, lists of these. -/
namespace Sw
open PySem PySem.Spec PyProof.Rows L2
/-! pure data: no references; as PyData -/
mutual
def pur : DV → PyData
  | .non => .none
  | .bl b => .bool b
  | .int i => .int i
  | .str x => .str x
  | .tup ds => .tuple (purs ds)
  | .ref _ => .none
def purs : List DV → List PyData
  | [] => []
  | d :: r => pur d :: purs r
end
/-! plain: without references and truths, texts as texts can be -/
mutual
def plain : DV → Bool
  | .non => true
  | .bl _ => false
  | .int _ => true
  | .str x => PyData.strOk x
  | .tup ds => plains ds
  | .ref _ => false
def plains : List DV → Bool
  | [] => true
  | d :: r => plain d && plains r
end
mutual
def deep : DV → Nat
  | .tup ds => deeps ds + 1
  | _ => 0
def deeps : List DV → Nat
  | [] => 0
  | d :: r => max (deep d) (deeps r)
end
theorem plain_tup (ds : List DV) : plain (.tup ds) = plains ds := by rw [plain]
theorem plains_append : ∀ ds es : List DV, plains (ds ++ es) = (plains ds && plains es)
  | [], es => by simp [plains]
  | d :: ds, es => by rw [List.cons_append, plains, plains, plains_append ds es, Bool.and_assoc]
theorem plains_ints (ns : List Int) : plains (ns.map DV.int) = true := by
  induction ns with
  | nil => rw [List.map_nil, plains]
  | cons n r ih => rw [List.map_cons, plains, ih, plain]; rfl
theorem deeps_ints (ns : List Int) : deeps (ns.map DV.int) = 0 := by
  induction ns with
  | nil => rw [List.map_nil, deeps]
  | cons n r ih => rw [List.map_cons, deeps, ih, deep]; rfl; exact fun _ h => nomatch h
theorem deeps_append : ∀ ds es : List DV, deeps (ds ++ es) = max (deeps ds) (deeps es)
  | [], es => by simp [deeps]
  | d :: ds, es => by rw [List.cons_append, deeps, deeps, deeps_append ds es]; omega
mutual
theorem dat_pur {st : Sto} : ∀ {d : DV}, plain d = true → Dat st d (pur d)
  | .non, _ => by rw [pur]; exact .non
  | .bl b, h => by rw [plain] at h; cases h
  | .int i, _ => by rw [pur]; exact .int i
  | .str x, _ => by rw [pur]; exact .str x
  | .tup ds, h => by rw [pur]; rw [plain] at h; exact .tup (dats_pur h)
  | .ref a, h => by rw [plain] at h; cases h
theorem dats_pur {st : Sto} : ∀ {ds : List DV}, plains ds = true → Dats st ds (purs ds)
  | [], _ => by rw [purs]; exact .nil
  | d :: r, h => by
    rw [plains, Bool.and_eq_true] at h
    rw [purs]
    exact .cons (dat_pur h.1) (dats_pur h.2)
end
mutual
theorem pur_lay : ∀ {d : DV}, plain d = true → (pur d).canLay0 = true
  | .non, _ => by rw [pur, PyData.canLay0]
  | .bl b, h => by rw [plain] at h; cases h
  | .int i, _ => by rw [pur, PyData.canLay0]
  | .str x, h => by rw [pur, PyData.canLay0]; rw [plain] at h; exact h
  | .tup ds, h => by rw [pur, PyData.canLay0]; rw [plain] at h; exact purs_lay h
  | .ref a, h => by rw [plain] at h; cases h
theorem purs_lay : ∀ {ds : List DV}, plains ds = true → PyData.canLayAll0 (purs ds) = true
  | [], _ => by rw [purs, PyData.canLayAll0]
  | d :: r, h => by
    rw [plains, Bool.and_eq_true] at h
    rw [purs, PyData.canLayAll0, pur_lay h.1, purs_lay h.2]; rfl
end
mutual
theorem pur_depth : ∀ {d : DV}, plain d = true → (pur d).depth = deep d
  | .non, _ => by rw [pur, PyData.depth, deep]; exact fun _ h => nomatch h
  | .bl b, h => by rw [plain] at h; cases h
  | .int i, _ => by rw [pur, PyData.depth, deep]; exact fun _ h => nomatch h
  | .str x, h => by rw [pur, PyData.depth, deep]; exact fun _ h => nomatch h
  | .tup ds, h => by rw [plain] at h; rw [pur, PyData.depth, deep, purs_depth h]
  | .ref a, h => by rw [plain] at h; cases h
theorem purs_depth : ∀ {ds : List DV}, plains ds = true → PyData.depthAll (purs ds) = deeps ds
  | [], _ => by rw [purs, PyData.depthAll, deeps]
  | d :: r, h => by
    rw [plains, Bool.and_eq_true] at h
    rw [purs, PyData.depthAll, deeps, pur_depth h.1, purs_depth h.2]
end
theorem pur_shaped {d : DV} (h : plain d = true) (hd : deep d ≤ 64) : SeqAt.shaped (pur d) = true := by
  unfold SeqAt.shaped
  rw [pur_lay h, pur_depth h, decide_eq_true hd]; rfl
theorem purs_shaped {ds : List DV} (h : plains ds = true) (hd : deeps ds ≤ 63) : SeqAt.shaped (.list (purs ds)) = true := by
  unfold SeqAt.shaped
  rw [PyData.canLay0, PyData.depth, purs_lay h, purs_depth h, decide_eq_true (by omega)]; rfl
mutual
theorem pur_eqv : ∀ {d e : DV}, plain d = true → plain e = true → (PyData.eqv (pur d) (pur e) = true ↔ d = e)
  | .non, e, _, he => by
    cases e <;> simp [pur, PyData.eqv, plain] at he ⊢
  | .int i, e, _, he => by
    cases e <;> simp [pur, PyData.eqv, plain] at he ⊢
  | .str i, e, _, he => by
    cases e <;> simp [pur, PyData.eqv, plain] at he ⊢
  | .tup ds, e, hd, he => by
    cases e with
    | tup es =>
      rw [plain] at hd he
      rw [pur, pur, PyData.eqv, purs_eqv hd he]
      simp
    | _ => simp [pur, PyData.eqv, plain] at he ⊢
  | .bl b, _, h, _ => by rw [plain] at h; cases h
  | .ref b, _, h, _ => by rw [plain] at h; cases h
theorem purs_eqv : ∀ {ds es : List DV}, plains ds = true → plains es = true → (PyData.eqvAll (purs ds) (purs es) = true ↔ ds = es)
  | [], [], _, _ => by simp [purs, PyData.eqvAll]
  | [], _ :: _, _, _ => by simp [purs, PyData.eqvAll]
  | _ :: _, [], _, _ => by simp [purs, PyData.eqvAll]
  | d :: ds, e :: es, hd, he => by
    rw [plains, Bool.and_eq_true] at hd he
    rw [purs, purs, PyData.eqvAll, Bool.and_eq_true, pur_eqv hd.1 he.1, purs_eqv hd.2 he.2]
    simp
end
/-! == of two plain things; of two lists of plain things -/
theorem bool_iff {a b : Bool} {p : Prop} (h : a = true ↔ p) (h' : b = true ↔ p) : a = b := by
  cases a <;> cases b <;> simp_all
theorem eqIs_plain {st : Sto} {x y : DV} {b : Bool} (hx : plain x = true) (hy : plain y = true) (dx : deep x ≤ 64) (dy : deep y ≤ 64) (hb : b = true ↔ x = y) : EqIs st x y b :=
  ⟨_, _, dat_pur hx, dat_pur hy, pur_shaped hx dx, pur_shaped hy dy, bool_iff (pur_eqv hx hy) hb⟩
theorem eqIs_lists {st : Sto} {a c : Addr} {xs ys : List DV} {b : Bool} (ea : lstAt st a = some xs) (ec : lstAt st c = some ys) (hx : plains xs = true) (hy : plains ys = true) (dx : deeps xs ≤ 63) (dy : deeps ys ≤ 63) (hb : b = true ↔ xs = ys) : EqIs st (.ref a) (.ref c) b :=
  ⟨_, _, .lst ea (dats_pur hx), .lst ec (dats_pur hy), purs_shaped hx dx, purs_shaped hy dy, by rw [PyData.eqv]; exact bool_iff (purs_eqv hx hy) hb⟩
/-! x in a list of plain things -/
theorem inIs_plain {st : Sto} {x : DV} {ys : List DV} {b : Bool} (hx : plain x = true) (hy : plains ys = true) (dx : deep x ≤ 64) (dy : deeps ys ≤ 63) (hb : b = true ↔ x ∈ ys) : InIs st x ys b := by
  refine ⟨_, _, dat_pur hx, dats_pur hy, pur_shaped hx dx, purs_shaped hy dy, bool_iff ?_ hb⟩
  clear hb dy
  induction ys with
  | nil => simp [purs]
  | cons y r ih =>
    rw [plains, Bool.and_eq_true] at hy
    rw [purs, List.any_cons, Bool.or_eq_true, pur_eqv hy.1 hx, ih hy.2, List.mem_cons]
    constructor
    · rintro (h | h)
      · exact .inl h.symm
      · exact .inr h
    · rintro (h | h)
      · exact .inl h.symm
      · exact .inr h
theorem plains_mem {ds : List DV} : plains ds = true ↔ ∀ d ∈ ds, plain d = true := by
  induction ds with
  | nil => simp [plains]
  | cons d r ih => rw [plains, Bool.and_eq_true, ih]; simp
theorem deeps_le {ds : List DV} {n : Nat} : deeps ds ≤ n ↔ ∀ d ∈ ds, deep d ≤ n := by
  induction ds with
  | nil => simp [deeps]
  | cons d r ih => rw [deeps, Nat.max_le, ih]; simp
theorem plain_encP (p : Place) : plain (encP p) = true := by unfold encP; rw [plain, plains_ints]
theorem deep_encP (p : Place) : deep (encP p) = 1 := by unfold encP; rw [deep, deeps_ints]
theorem plains_encP (ps : List Place) : plains (ps.map encP) = true := plains_mem.mpr fun d hd => by
  obtain ⟨p, _, rfl⟩ := List.mem_map.mp hd
  exact plain_encP p
theorem deeps_encP (ps : List Place) : deeps (ps.map encP) ≤ 63 := deeps_le.mpr fun d hd => by
  obtain ⟨p, _, rfl⟩ := List.mem_map.mp hd
  rw [deep_encP]; decide
theorem encP_inj {p q : Place} (h : encP p = encP q) : p = q := by
  unfold encP at h
  injection h with h
  exact (List.map_inj_right (fun _ _ e => DV.int.inj e)).mp h
theorem map_encP_inj {ps qs : List Place} (h : ps.map encP = qs.map encP) : ps = qs := (List.map_inj_right (fun _ _ e => encP_inj e)).mp h
theorem strOk_wd (w : Wd) : PyData.strOk w.str = true := by cases w <;> decide +kernel
mutual
theorem plain_enc : ∀ t : Tm, plain (enc t) = true
  | .mk w ns ps => by rw [enc, plain, plains, plain, strOk_wd, plains_append, plains_ints, plains_encs]; rfl
theorem plains_encs : ∀ ts : List Tm, plains (encs ts) = true
  | [] => by rw [encs, plains]
  | t :: r => by rw [encs, plains, plain_enc, plains_encs]; rfl
end
mutual
theorem deep_enc : ∀ t : Tm, deep (enc t) = high t
  | .mk w ns ps => by rw [enc, deep, deeps, deeps_append, deeps_ints, deeps_encs, high, deep]; omega; exact fun _ h => nomatch h
theorem deeps_encs : ∀ ts : List Tm, deeps (encs ts) = highL ts
  | [] => by rw [encs, deeps, highL]
  | t :: r => by rw [encs, deeps, deep_enc, deeps_encs, highL]
end
end Sw

/-! What the operations come to, by the shapes of what they are asked of (nothing else is unfolded). -/
namespace Sw
open PySem PySem.Spec PyProof.Rows L2
section
variable {st : Sto} {Q : DV → Sto → Prop} {i j : Int} {x y : Str} {ds es : List DV} {a b : Addr} {u v : Bool} {d e : DV}
theorem addD_ii : addD (.int i) (.int j) st Q = Q (.int (i + j)) st := rfl
theorem addD_ss : addD (.str x) (.str y) st Q = (x.length + y.length ≤ sizeLine ∧ Q (.str (x ++ y)) st) := rfl
theorem addD_tt : addD (.tup ds) (.tup es) st Q = (ds.length + es.length ≤ sizeLine ∧ Q (.tup (ds ++ es)) st) := rfl
def addL (x y : Option Ob) (st : Sto) (Q : DV → Sto → Prop) : Prop := match x, y with
  | some (.lst xs), some (.lst ys) => xs.length + ys.length ≤ sizeLine ∧ ∀ p, st p = none → Q (.ref p) (put st p (.lst (xs ++ ys)))
  | _, _ => False
theorem addD_rr : addD (.ref a) (.ref b) st Q = addL (st a) (st b) st Q := rfl
theorem addL_ll : addL (some (.lst ds)) (some (.lst es)) st Q = (ds.length + es.length ≤ sizeLine ∧ ∀ p, st p = none → Q (.ref p) (put st p (.lst (ds ++ es)))) := rfl
theorem subD_ii : subD (.int i) (.int j) st Q = Q (.int (i - j)) st := rfl
theorem mulD_ii : mulD (.int i) (.int j) st Q = (CMul i j ∧ Q (.int (i * j)) st) := rfl
def mulL (x : Option Ob) (k : Int) (st : Sto) (Q : DV → Sto → Prop) : Prop := match x with
  | some (.lst xs) => (-(2 ^ 63) ≤ k ∧ k < 2 ^ 63 ∧ xs.length * k.toNat ≤ sizeLine) ∧ ∀ p, st p = none → Q (.ref p) (put st p (.lst (List.replicate k.toNat xs).flatten))
  | _ => False
theorem mulD_ri : mulD (.ref a) (.int i) st Q = mulL (st a) i st Q := rfl
theorem mulL_l : mulL (some (.lst ds)) i st Q = ((-(2 ^ 63) ≤ i ∧ i < 2 ^ 63 ∧ ds.length * i.toNat ≤ sizeLine) ∧ ∀ p, st p = none → Q (.ref p) (put st p (.lst (List.replicate i.toNat ds).flatten))) := rfl
theorem modD_ii : modD (.int i) (.int j) st Q = (0 < j ∧ Q (.int (i % j)) st) := rfl
theorem fdivD_ii : fdivD (.int i) (.int j) st Q = (CDiv i j ∧ Q (.int (i / j)) st) := rfl
theorem powD_ii : powD (.int i) (.int j) st Q = (CPow i j ∧ Q (.int (i ^ j.toNat)) st) := rfl
theorem cmpD_ii {f : Int → Int → Bool} : cmpD f (.int i) (.int j) st Q = Q (.bl (f i j)) st := rfl
theorem ltD_ii : ltD (.int i) (.int j) st Q = Q (.bl (decide (i < j))) st := rfl
def ltI (x y : Option (List Int)) (st : Sto) (Q : DV → Sto → Prop) : Prop := match x, y with | some ns, some ms => Q (.bl (HT.lexLt ns ms)) st | _, _ => False
theorem ltD_tt : ltD (.tup ds) (.tup es) st Q = ltI (intsOf ds) (intsOf es) st Q := rfl
theorem ltI_ss {ns ms : List Int} : ltI (some ns) (some ms) st Q = Q (.bl (HT.lexLt ns ms)) st := rfl
theorem isNon_n : isNonD .non .non st Q = Q (.bl true) st := rfl
theorem isNon_i : isNonD (.int i) .non st Q = Q (.bl false) st := rfl
theorem isNon_s : isNonD (.str x) .non st Q = Q (.bl false) st := rfl
theorem isNon_t : isNonD (.tup ds) .non st Q = Q (.bl false) st := rfl
theorem isNon_r : isNonD (.ref a) .non st Q = Q (.bl false) st := rfl
theorem isNon_b : isNonD (.bl u) .non st Q = Q (.bl false) st := rfl
theorem notNon_n : notNonD .non .non st Q = Q (.bl false) st := rfl
theorem notNon_i : notNonD (.int i) .non st Q = Q (.bl true) st := rfl
theorem notNon_s : notNonD (.str x) .non st Q = Q (.bl true) st := rfl
theorem notNon_t : notNonD (.tup ds) .non st Q = Q (.bl true) st := rfl
theorem notNon_r : notNonD (.ref a) .non st Q = Q (.bl true) st := rfl
theorem notNon_b : notNonD (.bl u) .non st Q = Q (.bl true) st := rfl
theorem eqD_ii : eqD (.int i) (.int j) st Q = Q (.bl (decide (i = j))) st := rfl
theorem eqD_ss : eqD (.str x) (.str y) st Q = Q (.bl (decide (x = y))) st := rfl
theorem eqD_bb : eqD (.bl u) (.bl v) st Q = Q (.bl (decide (u = v))) st := rfl
theorem eqD_tt : eqD (.tup ds) (.tup es) st Q = ∃ b, EqIs st (.tup ds) (.tup es) b ∧ Q (.bl b) st := rfl
theorem eqD_rr : eqD (.ref a) (.ref b) st Q = ∃ c, EqIs st (.ref a) (.ref b) c ∧ Q (.bl c) st := rfl
theorem eqD_tr : eqD (.tup ds) (.ref b) st Q = ∃ c, EqIs st (.tup ds) (.ref b) c ∧ Q (.bl c) st := rfl
theorem eqD_rt : eqD (.ref b) (.tup ds) st Q = ∃ c, EqIs st (.ref b) (.tup ds) c ∧ Q (.bl c) st := rfl
theorem neD_ii : neD (.int i) (.int j) st Q = Q (.bl (!decide (i = j))) st := rfl
theorem neD_ss : neD (.str x) (.str y) st Q = Q (.bl (!decide (x = y))) st := rfl
theorem neD_bb : neD (.bl u) (.bl v) st Q = Q (.bl (!decide (u = v))) st := rfl
theorem neD_tt : neD (.tup ds) (.tup es) st Q = ∃ b, EqIs st (.tup ds) (.tup es) b ∧ Q (.bl (!b)) st := rfl
theorem neD_rr : neD (.ref a) (.ref b) st Q = ∃ c, EqIs st (.ref a) (.ref b) c ∧ Q (.bl (!c)) st := rfl
theorem neD_tr : neD (.tup ds) (.ref b) st Q = ∃ c, EqIs st (.tup ds) (.ref b) c ∧ Q (.bl (!c)) st := rfl
theorem neD_rt : neD (.ref b) (.tup ds) st Q = ∃ c, EqIs st (.ref b) (.tup ds) c ∧ Q (.bl (!c)) st := rfl
/-! subscripts -/
def ixO (x : Option DV) (st : Sto) (Q : DV → Sto → Prop) : Prop := match x with | some d => Q d st | none => False
def ixL (x : Option (List DV)) (i : Int) (st : Sto) (Q : DV → Sto → Prop) : Prop := match x with | some ds => ixO (L2.atI ds i) st Q | none => False
theorem ixD_ri : ixD (.ref a) (.int i) st Q = ixL (lstAt st a) i st Q := by
  show (match lstAt st a with | some ds => (match L2.atI ds i with | some d => Q d st | none => False) | none => False) = _
  unfold ixL ixO; rfl
theorem ixL_s : ixL (some ds) i st Q = ixO (L2.atI ds i) st Q := rfl
theorem ixO_s : ixO (some d) st Q = Q d st := rfl
theorem ixD_ti : ixD (.tup ds) (.int i) st Q = ixO (L2.atI ds i) st Q := rfl
def ixC (x : Option Nat) (st : Sto) (Q : DV → Sto → Prop) : Prop := match x with | some c => Q (.str ⟨#[c]⟩) st | none => False
theorem ixD_si : ixD (.str x) (.int i) st Q = (x.length ≤ sizeLine ∧ ixC (L2.atI x.cps.toList i) st Q) := rfl
theorem ixC_s {c : Nat} : ixC (some c) st Q = Q (.str ⟨#[c]⟩) st := rfl
def slL (x : Option (List DV)) (lo hi : Option Int) (st : Sto) (Q : DV → Sto → Prop) : Prop := match x with | some ds => ∀ p, st p = none → Q (.ref p) (put st p (.lst (cutD ds lo hi))) | none => False
theorem slD_r {lo hi : Option Int} : slD (.ref a) lo hi st Q = slL (lstAt st a) lo hi st Q := rfl
theorem slL_s {lo hi : Option Int} : slL (some ds) lo hi st Q = ∀ p, st p = none → Q (.ref p) (put st p (.lst (cutD ds lo hi))) := rfl
theorem slD_t {lo hi : Option Int} : slD (.tup ds) lo hi st Q = Q (.tup (cutD ds lo hi)) st := rfl
theorem slD_s {lo hi : Option Int} : slD (.str x) lo hi st Q = (x.length ≤ sizeLine ∧ Q (.str (cutS x lo hi)) st) := rfl
/-! in -/
def inF (neg : Bool) (x : Option V) (ys : Option (List V)) (st : Sto) (Q : DV → Sto → Prop) : Prop := match x, ys with | some v, some vs => Q (.bl (neg ^^ inV v vs)) st | _, _ => False
theorem inD_t {neg : Bool} : inD neg d (.tup ds) st Q = inF neg (flatD d) (flatsD ds) st Q := rfl
theorem inF_ss {neg : Bool} {z : V} {vs : List V} : inF neg (some z) (some vs) st Q = Q (.bl (neg ^^ inV z vs)) st := rfl
/-- in a list of data (the asked is a tuple) -/
def inL (neg : Bool) (d : DV) (x : Option (List DV)) (st : Sto) (Q : DV → Sto → Prop) : Prop := match x with
  | some ds => (match flatD d, flatsD ds with | some v, some vs => Q (.bl (neg ^^ inV v vs)) st | _, _ => ∃ b, InIs st d ds b ∧ Q (.bl (neg ^^ b)) st)
  | none => False
theorem inD_r {neg : Bool} : inD neg d (.ref a) st Q = inL neg d (lstAt st a) st Q := rfl
theorem inL_t {neg : Bool} : inL neg (.tup es) (some ds) st Q = ∃ b, InIs st (.tup es) ds b ∧ Q (.bl (neg ^^ b)) st := rfl
/-! calls -/
def lenL (x : Option (List DV)) (st : Sto) (Q : DV → Sto → Prop) : Prop := match x with | some xs => Q (.int xs.length) st | none => False
theorem lenD_r : lenD [.ref a] st Q = lenL (lstAt st a) st Q := rfl
theorem lenL_s : lenL (some ds) st Q = Q (.int ds.length) st := rfl
theorem lenD_t : lenD [.tup ds] st Q = Q (.int ds.length) st := rfl
theorem lenD_s : lenD [.str x] st Q = (x.length ≤ sizeLine ∧ Q (.int x.length) st) := rfl
def listL (x : Option (List DV)) (st : Sto) (Q : DV → Sto → Prop) : Prop := match x with | some xs => ∀ p, st p = none → Q (.ref p) (put st p (.lst xs)) | none => False
theorem listD_r : listD [.ref a] st Q = listL (lstAt st a) st Q := rfl
theorem listL_s : listL (some ds) st Q = ∀ p, st p = none → Q (.ref p) (put st p (.lst ds)) := rfl
theorem listD_t : listD [.tup ds] st Q = ∀ p, st p = none → Q (.ref p) (put st p (.lst ds)) := rfl
def tupleL (x : Option (List DV)) (st : Sto) (Q : DV → Sto → Prop) : Prop := match x with | some xs => Q (.tup xs) st | none => False
theorem tupleD_r : tupleD [.ref a] st Q = tupleL (lstAt st a) st Q := rfl
theorem tupleL_s : tupleL (some ds) st Q = Q (.tup ds) st := rfl
theorem tupleD_t : tupleD [.tup ds] st Q = Q (.tup ds) st := rfl
theorem min2D_ii : min2D [.int i, .int j] st Q = Q (.int (if j < i then j else i)) st := rfl
theorem max2D_ii : max2D [.int i, .int j] st Q = Q (.int (if j > i then j else i)) st := rfl
theorem intD_i : intD [.int i] st Q = Q (.int i) st := rfl
theorem intD_b : intD [.bl u] st Q = Q (.int (if u then 1 else 0)) st := rfl
def boolsO (f : List Bool → Bool) (x : Option (List Bool)) (st : Sto) (Q : DV → Sto → Prop) : Prop := match x with | some bs => Q (.bl (f bs)) st | none => False
def boolsL (f : List Bool → Bool) (x : Option (List DV)) (st : Sto) (Q : DV → Sto → Prop) : Prop := match x with | some xs => boolsO f (blsOf xs) st Q | none => False
theorem boolsD_r {f : List Bool → Bool} : boolsD f [.ref a] st Q = boolsL f (lstAt st a) st Q := rfl
theorem boolsL_s {f : List Bool → Bool} : boolsL f (some ds) st Q = boolsO f (blsOf ds) st Q := rfl
theorem boolsO_s {f : List Bool → Bool} {bs : List Bool} : boolsO f (some bs) st Q = Q (.bl (f bs)) st := rfl
/-! methods of lists -/
def isLstO (x : Option Ob) : Prop := match x with | some (.lst _) => True | some (.rol _) => True | _ => False
theorem isLst_r : isLst (.ref a) st = isLstO (st a) := rfl
theorem isLstO_l : isLstO (some (.lst ds)) = True := rfl
theorem isLstO_r : isLstO (some (.rol ds)) = True := rfl
def appendL (a : Addr) (x : Option Ob) (d : DV) (st : Sto) (Q : DV → Sto → Prop) : Prop := match x with | some (.lst xs) => xs.length < sizeLine ∧ Q .non (put st a (.lst (xs ++ [d]))) | _ => False
theorem appendD_r : appendD (.ref a) [d] st Q = appendL a (st a) d st Q := rfl
theorem appendL_l : appendL a (some (.lst ds)) d st Q = (ds.length < sizeLine ∧ Q .non (put st a (.lst (ds ++ [d])))) := rfl
def extendL (a : Addr) (x y : Option Ob) (st : Sto) (Q : DV → Sto → Prop) : Prop := match x, y with | some (.lst xs), some (.lst ys) => xs.length + ys.length ≤ sizeLine ∧ Q .non (put st a (.lst (xs ++ ys))) | _, _ => False
theorem extendD_r : extendD (.ref a) [.ref b] st Q = extendL a (st a) (st b) st Q := rfl
theorem extendL_l : extendL a (some (.lst ds)) (some (.lst es)) st Q = (ds.length + es.length ≤ sizeLine ∧ Q .non (put st a (.lst (ds ++ es)))) := rfl
def popL (a : Addr) (x : Option Ob) (st : Sto) (Q : DV → Sto → Prop) : Prop := match x with | some (.lst xs) => (match xs[xs.length - 1]? with | some d => Q d (put st a (.lst xs.dropLast)) | none => False) | _ => False
theorem popD_r : popD (.ref a) [] st Q = popL a (st a) st Q := rfl
theorem popL_l : popL a (some (.lst (ds ++ [d]))) st Q = Q d (put st a (.lst ds)) := by
  simp [popL]
def reverseL (a : Addr) (x : Option Ob) (st : Sto) (Q : DV → Sto → Prop) : Prop := match x with | some (.lst xs) => Q .non (put st a (.lst xs.reverse)) | _ => False
theorem reverseD_r : reverseD (.ref a) [] st Q = reverseL a (st a) st Q := rfl
theorem reverseL_l : reverseL a (some (.lst ds)) st Q = Q .non (put st a (.lst ds.reverse)) := rfl
def clearL (a : Addr) (x : Option Ob) (st : Sto) (Q : DV → Sto → Prop) : Prop := match x with | some (.lst _) => Q .non (put st a (.lst [])) | _ => False
theorem clearD_r : clearD (.ref a) [] st Q = clearL a (st a) st Q := rfl
theorem clearL_l : clearL a (some (.lst ds)) st Q = Q .non (put st a (.lst [])) := rfl
def setLJ (a : Addr) (xs : List DV) (j : Option Nat) (d : DV) (st : Sto) (Q : Sto → Prop) : Prop := match j with | some j => Q (put st a (.lst (xs.set j d))) | none => False
def setLL (a : Addr) (x : Option Ob) (k : Int) (d : DV) (st : Sto) (Q : Sto → Prop) : Prop := match x with | some (.lst xs) => setLJ a xs (ixN xs.length k) d st Q | _ => False
theorem setLD_r {R : Sto → Prop} : setLD (.ref a) (.int i) d st R = setLL a (st a) i d st R := rfl
theorem setLL_l {R : Sto → Prop} : setLL a (some (.lst ds)) i d st R = setLJ a ds (ixN ds.length i) d st R := rfl
theorem setLJ_s {R : Sto → Prop} {k : Nat} : setLJ a ds (some k) d st R = R (put st a (.lst (ds.set k d))) := rfl
/-! dicts with text keys -/
def dgetO (x : Option DV) (st : Sto) (Q : DV → Sto → Prop) : Prop := match x with | some d => Q d st | none => False
def dgetL (x : Option Ob) (k : Option Key) (st : Sto) (Q : DV → Sto → Prop) : Prop := match x, k with | some (.dck kvs), some k => dgetO (lookK kvs k) st Q | _, _ => False
def dgetR (x y : DV) (st : Sto) (Q : DV → Sto → Prop) : Prop := match x with | .ref a => dgetL (st a) (keyK y) st Q | _ => False
theorem mDgetK_eq {mo mi : ME} {W : XD} {ρ : Rho} : mDgetK mo mi W ρ st Q = mo W ρ st fun x st1 => mi W ρ st1 fun y st2 => dgetR x y st2 Q := rfl
theorem dgetR_r : dgetR (.ref a) d st Q = dgetL (st a) (keyK d) st Q := rfl
theorem dgetL_k {kvs : List (Key × DV)} {k : Key} : dgetL (some (.dck kvs)) (some k) st Q = dgetO (lookK kvs k) st Q := rfl
theorem dgetO_s : dgetO (some d) st Q = Q d st := rfl
theorem keyK_s : keyK (.str x) = some (.inr x) := rfl
theorem keyK_i : keyK (.int i) = some (.inl i) := rfl
/-! what is known of a value's shape -/
def tstV (d : DV) (st : Sto) (Q : Bool → Sto → Prop) : Prop := match d with | .bl b => Q b st | _ => False
theorem mTest_eq {m : ME} {W : XD} {ρ : Rho} {R : Bool → Sto → Prop} : mTest m W ρ st R = m W ρ st fun d st1 => tstV d st1 R := rfl
theorem tstV_b {R : Bool → Sto → Prop} : tstV (.bl u) st R = R u st := rfl
def varV (x : Option DV) (st : Sto) (Q : DV → Sto → Prop) : Prop := match x with | some d => Q d st | none => False
theorem mVar_eq {n : Nat} {W : XD} {ρ : Rho} : mVar n W ρ st Q = varV (ρ.getD n none) st Q := rfl
theorem varV_s : varV (some d) st Q = Q d st := rfl
def andV (d : DV) (st : Sto) (T F : Sto → Prop) : Prop := match d with | .bl b => if b = true then T st else F st | _ => False
theorem mAndV_eq {ma mb : ME} {W : XD} {ρ : Rho} : mAndV ma mb W ρ st Q = ma W ρ st fun d st1 => andV d st1 (fun st2 => mb W ρ st2 Q) (fun st2 => Q (.bl false) st2) := rfl
theorem mOrV_eq {ma mb : ME} {W : XD} {ρ : Rho} : mOrV ma mb W ρ st Q = ma W ρ st fun d st1 => andV d st1 (fun st2 => Q (.bl true) st2) (fun st2 => mb W ρ st2 Q) := rfl
theorem andV_b {T F : Sto → Prop} : andV (.bl u) st T F = if u = true then T st else F st := rfl
def notV (d : DV) (st : Sto) (Q : DV → Sto → Prop) : Prop := match d with | .bl b => Q (.bl (!b)) st | _ => False
theorem mNotV_eq {ma : ME} {W : XD} {ρ : Rho} : mNotV ma W ρ st Q = ma W ρ st fun d st1 => notV d st1 Q := rfl
theorem notV_b : notV (.bl u) st Q = Q (.bl (!u)) st := rfl
def negV (d : DV) (st : Sto) (Q : DV → Sto → Prop) : Prop := match d with | .int i => Q (.int (-i)) st | _ => False
theorem mNeg_eq {ma : ME} {W : XD} {ρ : Rho} : mNeg ma W ρ st Q = ma W ρ st fun d st1 => negV d st1 Q := rfl
theorem negV_i : negV (.int i) st Q = Q (.int (-i)) st := rfl
def oV (d : DV) (st : Sto) (Q : Option Int → Sto → Prop) : Prop := match d with | .int i => Q (some i) st | _ => False
theorem oSome_eq {m : ME} {W : XD} {ρ : Rho} {R : Option Int → Sto → Prop} : oSome m W ρ st R = m W ρ st fun d st1 => oV d st1 R := rfl
theorem oV_i {R : Option Int → Sto → Prop} : oV (.int i) st R = R (some i) st := rfl
def chainV (d : DV) (st : Sto) (T F : Sto → Prop) : Prop := match d with | .bl b => if b = true then T st else F st | _ => False
theorem mChain_eq {f f' : D2} {ma mb mc : ME} {W : XD} {ρ : Rho} : mChain f f' ma mb mc W ρ st Q = ma W ρ st fun x st1 => mb W ρ st1 fun y st2 => f x y st2 fun z st3 => andV z st3 (fun st4 => mc W ρ st4 fun u st5 => f' y u st5 Q) (fun st4 => Q (.bl false) st4) := rfl
def isiV (T : Ty) (x : Option Ty) (st : Sto) (Q : DV → Sto → Prop) : Prop := match x with | some t => Q (.bl (t.isa T)) st | none => False
theorem mIsi_eq {T : Ty} {m : ME} {W : XD} {ρ : Rho} : mIsi T m W ρ st Q = m W ρ st fun d st1 => isiV T (tyOf st1 d) st1 Q := rfl
theorem isiV_s {T t : Ty} : isiV T (some t) st Q = Q (.bl (t.isa T)) st := rfl
theorem tyOf_t : tyOf st (.tup ds) = some .tuple := rfl
theorem tyOf_i : tyOf st (.int i) = some .int := rfl
theorem tyOf_s : tyOf st (.str x) = some .str := rfl
theorem tyOf_b : tyOf st (.bl u) = some .bool := rfl
theorem tyOf_n : tyOf st .non = some .non := rfl
def tyO (x : Option Ob) : Option Ty := match x with | some (.lst _) => some .list | some (.rol _) => some .list | some (.dck _) => some .dict | _ => none
theorem tyOf_r : tyOf st (.ref a) = tyO (st a) := rfl
theorem tyO_l : tyO (some (.lst ds)) = some .list := rfl
theorem tyO_r : tyO (some (.rol ds)) = some .list := rfl
/-! targets and what is walked -/
section
variable {W : XD} {ρ : Rho} {R : Rho → Sto → Prop}
theorem gNl_n : gNl W [] ρ st R = R ρ st := rfl
theorem gCn_c {g : MG} {gs : MGs} : gCn g gs W (d :: ds) ρ st R = g W d ρ st fun ρ1 st1 => gs W ds ρ1 st1 R := rfl
theorem gTp_t {n : Nat} {gs : MGs} : gTp n gs W (.tup ds) ρ st R = (ds.length = n ∧ gs W ds ρ st R) := rfl
end
def seqV (d : DV) (st : Sto) (Q : List DV → List Addr → Sto → Prop) : Prop := match d with
  | .ref a => (match lstAt st a with | some ds => Q ds [a] st | none => False)
  | .tup ds => Q ds [] st
  | .str z => Q (charsD z) [] st
  | _ => False
def seqL (a : Addr) (x : Option (List DV)) (st : Sto) (Q : List DV → List Addr → Sto → Prop) : Prop := match x with | some ds => Q ds [a] st | none => False
variable {W : XD} {ρ : Rho} {R : List DV → List Addr → Sto → Prop}
theorem iSeq_eq {m : ME} : iSeq m W ρ st R = m W ρ st fun d st1 => seqV d st1 R := rfl
theorem seqV_r : seqV (.ref a) st R = seqL a (lstAt st a) st R := rfl
theorem seqL_s : seqL a (some ds) st R = R ds [a] st := rfl
theorem seqV_t : seqV (.tup ds) st R = R ds [] st := rfl
theorem seqV_s : seqV (.str x) st R = R (charsD x) [] st := rfl
def rngV1 (ds : List DV) (st : Sto) (Q : List DV → List Addr → Sto → Prop) : Prop := match ds with | [.int j] => (-(2 ^ 62) ≤ j ∧ j < 2 ^ 62) ∧ Q (rangeD 0 j.toNat) [] st | _ => False
theorem iRange1_eq {ms : MA} : iRange1 ms W ρ st R = ms W ρ st fun ds st1 => rngV1 ds st1 R := rfl
theorem rngV1_i : rngV1 [.int i] st R = ((-(2 ^ 62) ≤ i ∧ i < 2 ^ 62) ∧ R (rangeD 0 i.toNat) [] st) := rfl
def rngV2 (ds : List DV) (st : Sto) (Q : List DV → List Addr → Sto → Prop) : Prop := match ds with | [.int i, .int j] => (-(2 ^ 62) ≤ i ∧ i < 2 ^ 62 ∧ -(2 ^ 62) ≤ j ∧ j < 2 ^ 62) ∧ Q (rangeD i (j - i).toNat) [] st | _ => False
theorem iRange2_eq {ms : MA} : iRange2 ms W ρ st R = ms W ρ st fun ds st1 => rngV2 ds st1 R := rfl
theorem rngV2_i : rngV2 [.int i, .int j] st R = ((-(2 ^ 62) ≤ i ∧ i < 2 ^ 62 ∧ -(2 ^ 62) ≤ j ∧ j < 2 ^ 62) ∧ R (rangeD i (j - i).toNat) [] st) := rfl
def enV (ds : List DV) (st : Sto) (Q : List DV → List Addr → Sto → Prop) : Prop := match ds with
  | [.ref a] => (match lstAt st a with | some ds => Q (enumD 0 ds) [a] st | none => False)
  | [.tup ds] => Q (enumD 0 ds) [] st
  | _ => False
def enL (a : Addr) (x : Option (List DV)) (st : Sto) (Q : List DV → List Addr → Sto → Prop) : Prop := match x with | some ds => Q (enumD 0 ds) [a] st | none => False
theorem iEnumD_eq {ms : MA} : iEnumD ms W ρ st R = ms W ρ st fun ds st1 => enV ds st1 R := rfl
theorem enV_r : enV [.ref a] st R = enL a (lstAt st a) st R := rfl
theorem enL_s : enL a (some ds) st R = R (enumD 0 ds) [a] st := rfl
theorem enV_t : enV [.tup ds] st R = R (enumD 0 ds) [] st := rfl
def zpL (a b : Addr) (x y : Option (List DV)) (st : Sto) (Q : List DV → List Addr → Sto → Prop) : Prop := match x, y with | some ds, some es => Q (zipD ds es) [a, b] st | _, _ => False
def zpV (ds : List DV) (st : Sto) (Q : List DV → List Addr → Sto → Prop) : Prop := match ds with
  | [.ref a, .ref b] => zpL a b (lstAt st a) (lstAt st b) st Q
  | _ => False
theorem iZipD_eq {ms : MA} : iZipD ms W ρ st R = ms W ρ st fun ds st1 => zpV ds st1 R := rfl
theorem zpV_r : zpV [.ref a, .ref b] st R = zpL a b (lstAt st a) (lstAt st b) st R := rfl
theorem zpL_s : zpL a b (some ds) (some es) st R = R (zipD ds es) [a, b] st := rfl
/-! displays of dicts -/
def dispO (x : Option (List (Key × DV))) (st : Sto) (Q : DV → Sto → Prop) : Prop := match x with | some kvs => (kvs.length ≤ 15 ∧ (kvs.map (·.1)).Nodup) ∧ ∀ p, st p = none → Q (.ref p) (put st p (.dck kvs)) | none => False
theorem mDisp_eq {m : MP} : mDisp m W ρ st Q = m W ρ st fun ps st1 => dispO (keysK ps) st1 Q := rfl
theorem dispO_s {kvs : List (Key × DV)} : dispO (some kvs) st Q = ((kvs.length ≤ 15 ∧ (kvs.map (·.1)).Nodup) ∧ ∀ p, st p = none → Q (.ref p) (put st p (.dck kvs))) := rfl
theorem pCons_eq {mk mv : ME} {r : MP} {R : List (DV × DV) → Sto → Prop} : pCons mk mv r W ρ st R = mk W ρ st fun x st1 => mv W ρ st1 fun y st2 => r W ρ st2 fun ps st3 => R ((x, y) :: ps) st3 := rfl
theorem pNil_eq {R : List (DV × DV) → Sto → Prop} : pNil W ρ st R = R [] st := rfl
end
/-! a cut between two statements -/
theorem seq_by {m n : MS} {W : XD} {D : DEnds} {ρ : Rho} {st : Sto} (P : Rho → Sto → Prop) (hm : ∀ N : Rho → Sto → Prop, (∀ ρ1 st1, P ρ1 st1 → N ρ1 st1) → m W { D with nx := N } ρ st) (hn : ∀ ρ1 st1, P ρ1 st1 → n W D ρ1 st1) : sSeq m n W D ρ st := hm _ hn
/-! lists in the store -/
theorem lstAt_put {st : Sto} {a b : Addr} {o : Ob} (h : b ≠ a) : lstAt (put st a o) b = lstAt st b := by unfold lstAt; rw [put_ne h]
theorem lstAt_same {st : Sto} {a : Addr} {ds : List DV} : lstAt (put st a (.lst ds)) a = some ds := by unfold lstAt; rw [put_same]
theorem lstAt_lst {st : Sto} {a : Addr} {ds : List DV} (h : st a = some (.lst ds)) : lstAt st a = some ds := by unfold lstAt; rw [h]
theorem lstAt_rol {st : Sto} {a : Addr} {ds : List DV} (h : st a = some (.rol ds)) : lstAt st a = some ds := by unfold lstAt; rw [h]
theorem lstAt_some {st : Sto} {a : Addr} {ds : List DV} (h : lstAt st a = some ds) : ∃ o, st a = some o := by
  unfold lstAt at h
  cases e : st a with
  | none => rw [e] at h; cases h
  | some o => exact ⟨o, rfl⟩
theorem lstAt_keep {st st' : Sto} {a : Addr} {ds : List DV} (h : lstAt st a = some ds) (k : ∀ o, st a = some o → st' a = some o) : lstAt st' a = some ds := by
  obtain ⟨o, e⟩ := lstAt_some h
  unfold lstAt at h ⊢
  rw [k o e]; rw [e] at h; exact h
end Sw

/-! sorted: tuples, some of them perhaps empty; and what is alike otherwise. -/
namespace Sw
open PySem PySem.Spec PyProof.Rows L2 PySem.W PySem.SeqAt PySem.Calls
section
variable {prog : Program} {w : World} {A : Around} {E : Value → Shared → Prop} {s : Shared}
theorem call_tup_lt {Q : Value → Shared → Prop} {l b : Addr} {items items2 : Array Value} {e r : Nat → Bool} (hl : s.heap.IsTuple l items) (hb : s.heap.IsTuple b items2)
    (he : ∀ j (h1 : j < items.size) (h2 : j < items2.size), EqAt A.in1 s items[j] items2[j] (e j)) (hr : ∀ j (h1 : j < items.size) (h2 : j < items2.size), e j = false → RcLt A.in1 s items[j] items2[j] (r j))
    (h : Q (.bool (firstLt e r (decide (items.size < items2.size)) (List.range (min items.size items2.size)))) s) : wpAny (model prog w) A (call (.builtin "tuple.__lt__") [.ref l, .ref b]) Q E s := by
  obtain ⟨⟨cls, dd, data, sl⟩, ho, hc, n, hd⟩ := id hl
  obtain ⟨⟨cls2, dd2, data2, sl2⟩, ho2, hc2, n2, hd2⟩ := id hb
  simp only at hc hd hc2 hd2
  subst hc hd hc2 hd2
  exact call_meets F.slot_tuple_lt ⟨_, ho, rfl⟩ F.entry_tuple_lt (F.args_tuple_lt_2 _ _) (tuple_ltAt l b items items2 n n2 dd dd2 sl sl2 e r) ⟨ho, ho2, he, hr, h⟩
/-- one tuple against another, whatever the kind of keys -/
theorem oneLt_tups {f : Bool} {xs ys : List PyData} {a b : Value} {as bs : List Addr} {Q : Bool → Shared → Prop} (ra : Reads s.heap a (.tuple xs) as) (rb : Reads s.heap b (.tuple ys) bs) (h : alikeAll xs ys = true)
    (hu : A.units + min (PyData.tuple xs).depth (PyData.tuple ys).depth < cLine) (hq : Q (dataLt (.tuple xs) (.tuple ys)) s) : wpAny (model prog w) A (oneLt' f a b) Q E s := by
  cases f with
  | false => exact oneLt_alike (fun z => nomatch z) ra rb (by simpa [alike] using h) (by simp) hu hq
  | true =>
    cases ra with
    | @tuple l o vs n _ as₁ h1 h2 h3 h4 =>
      cases rb with
      | @tuple l' o' vs' n' _ bs₁ k1 k2 k3 k4 =>
        have n1 : vs.size = xs.length := by simpa using SeqAt.ReadsAll.length _ _ _ h4
        have n2 : vs'.size = ys.length := by simpa using SeqAt.ReadsAll.length _ _ _ k4
        rw [dataLt_tuple, ← firstLt_toks xs ys h, ← n1, ← n2] at hq
        rw [oneLt'_eq]
        simp only [if_true]
        refine wpAny_bind (wpAny_cRoomFor (room_here hu) ?_)
        refine wpAny_bind (wpAny_callSpecialIfBound?_slot (T := "tuple") ⟨_, h1, h2⟩ F.slot_tuple_lt (call_tup_lt (e := pairEq xs ys) (r := fun j => dataLt (xs.getD j .none) (ys.getD j .none)) ⟨_, h1, h2, _, h3⟩ ⟨_, k1, k2, _, k3⟩ (fun j j1 j2 => ?_) (fun j j1 j2 hj => ?_) ?_))
        · have := eqAt_alikeAll xs ys A.in1 s vs.toList vs'.toList _ _ h4 k4 h (room_in hu) j (by simpa using j1) (by simpa using j2)
          simpa using this
        · have := rcLt_alikeAll xs ys A.in1 s vs.toList vs'.toList _ _ h4 k4 h (room_in hu) j (by simpa using j1) (by simpa using j2) hj
          simpa using this
        · exact wpAny_truthy_bool hq
def fullT : PyData → Bool
  | .tuple [] => false
  | _ => true
/-- the first items, where there are any -/
theorem firsts_any {M : Model} : ∀ {vs : List Value} {ds : List PyData}, EachIs (fun v d => ∃ as, Reads s.heap v d as) vs ds → (∀ d, d ∈ ds → ∃ r, d = .tuple r) →
    ∃ fs : List (Option Value), (fs.map (·.isSome) = ds.map fullT) ∧ ∀ {Q : List (Option Value) → Shared → Prop}, Q fs s → wpAny M A (vs.mapM firstOfTuple') Q E s
  | _, _, .nil, _ => ⟨[], rfl, fun h => by rw [List.mapM_nil]; exact wpAny_pure h⟩
  | _, _, .cons (b := d) ⟨as, r⟩ t, ht => by
    obtain ⟨fs, h1, h2⟩ := firsts_any (M := M) t fun d hd => ht d (List.mem_cons_of_mem _ hd)
    obtain ⟨rest, rfl⟩ := ht d (List.mem_cons_self ..)
    cases r with
    | @tuple a o xs n _ _ ho hc hd hr =>
      refine ⟨xs[0]? :: fs, ?_, fun {Q} h => ?_⟩
      · rw [List.map_cons, List.map_cons, h1]
        congr 1
        have n1 : xs.size = rest.length := by simpa using SeqAt.ReadsAll.length _ _ _ hr
        cases rest with
        | nil => simp at n1; simp [n1, fullT]
        | cons x r => simp at n1; simp [n1, fullT]
      · rw [List.mapM_cons]
        refine wpAny_bind ?_
        rw [kas_first_eq]
        refine wpAny_bind (Looks.here (show Looks M s.heap (typeOf (.ref a)) o.cls from (Looks.ld ho).andThen .now) ?_)
        rw [hc, if_neg (by first | decide | simp)]
        refine wpAny_bind (listItems_at ho hd (wpAny_pure ?_))
        exact wpAny_bind (h2 (Q := fun bs s' => wpAny M A (pure (xs[0]? :: bs)) Q E s') (wpAny_pure h))
def Sortable2 (ds : List PyData) : Prop := (∀ d, d ∈ ds → ∃ r, d = .tuple r) ∨ ∀ d, d ∈ ds → d ≠ .none ∧ ∀ xs, d ≠ .tuple xs
theorem sortsAt_any {vs : List Value} {ds : List PyData} (e : EachIs (fun v d => ∃ as, Reads s.heap v d as) vs ds) (hal : AllAlike ds) (hk : Sortable2 ds) (hu : ∀ d, d ∈ ds → A.units + d.depth < cLine) : SortsAt prog w A s (dataKind s.heap ds) vs := by
  rcases hk with ht | hn
  · by_cases hall : ∀ d, d ∈ ds → ∃ x r, d = PyData.tuple (x :: r)
    · exact SortsAt.data e hal (.inl hall) hu
    · refine ⟨fun v hv => ?_, ?_⟩
      · obtain ⟨d, hd, as, r⟩ := e.left v hv
        exact ⟨_, dataKind_some hal hd r⟩
      · have hex : PyData.tuple [] ∈ ds := by
          apply Classical.byContradiction
          intro no
          apply hall
          intro d hd
          obtain ⟨r, rfl⟩ := ht d hd
          cases r with
          | nil => exact absurd hd no
          | cons x r => exact ⟨x, r, rfl⟩
        have lt : ∀ kd : SortKind, (kd = general' ∨ kd = oneType') → H.LtAt prog w A s (dataKind s.heap ds) kd := by
          intro kd hkd E x y a b Q ha hb hq
          obtain ⟨d, as, hd, ra, rfl⟩ := dataKind_inv ha
          obtain ⟨d', as', hd', rb, rfl⟩ := dataKind_inv hb
          have hdd := hal d hd d' hd'
          have hroom : A.units + min d.depth d'.depth < cLine := Nat.lt_of_le_of_lt (Nat.add_le_add_left (Nat.min_le_left _ _) _) (hu d hd)
          obtain ⟨r1, rfl⟩ := ht d hd
          obtain ⟨r2, rfl⟩ := ht d' hd'
          rcases hkd with rfl | rfl
          · show wpAny _ _ (oneLt' false x y) _ _ _
            exact oneLt_tups ra rb (by simpa [alike] using hdd) hroom hq
          · rw [keyLt'_oneType]
            exact oneLt_tups ra rb (by simpa [alike] using hdd) hroom hq
        cases ds with
        | nil => cases hex
        | cons d0 ds0 =>
          by_cases h0 : d0 = .tuple []
          · refine ⟨oneType', lt _ (.inr rfl), fun h2 E Q hq => ?_⟩
            obtain ⟨fs, f1, f2⟩ := firsts_any (A := A) (E := E) (M := model prog w) e ht
            rw [keyKind'_eq, List.mapM_toArray, map_eq_pure_bind]
            refine wpAny_bind (wpAny_bind (f2 (wpAny_pure ?_)))
            have hsome : fs.map (·.isSome) = fullT d0 :: ds0.map fullT := by rw [f1]; rfl
            cases fs with
            | nil => simp at hsome
            | cons f0 fr =>
              rw [List.map_cons] at hsome
              have e0 : f0.isSome = false := by rw [(List.cons.inj hsome).1, h0]; rfl
              have e0' : f0 = none := by cases f0 <;> simp_all
              subst e0'
              rw [if_neg (by simp), if_neg (by simp)]
              rw [oneTypeOnly'_eq, List.mapM_toArray, map_eq_pure_bind]
              refine wpAny_bind (wpAny_bind (wpAny_bind (kas_mapM (r := Value.type "tuple") _ (fun v hv Q' hq => ?_) (wpAny_pure ?_))))
              · obtain ⟨d, hd, as, r⟩ := e.left v hv
                have l := looks_reads (M := model prog w) r
                obtain ⟨rr, rfl⟩ := ht d hd
                exact l.here hq
              · have hall : ((List.map (fun _ => Value.type "tuple") vs).toArray.all fun x => x == Value.type "tuple") = true := by
                  simp only [List.all_toArray, List.all_map, List.all_eq_true]
                  intro _ _
                  rfl
                have h0 : (List.map (fun _ => Value.type "tuple") vs).toArray[0]? = some (Value.type "tuple") := by
                  cases vs with
                  | nil => simp at h2
                  | cons v r => simp
                rw [h0]
                simp only [hall, if_true]
                exact wpAny_pure (wpAny_pure hq)
          · refine ⟨general', lt _ (.inl rfl), fun h2 E Q hq => ?_⟩
            obtain ⟨fs, f1, f2⟩ := firsts_any (A := A) (E := E) (M := model prog w) e ht
            rw [keyKind'_eq, List.mapM_toArray, map_eq_pure_bind]
            refine wpAny_bind (wpAny_bind (f2 (wpAny_pure ?_)))
            have hno : ¬ (fs.toArray.all fun x => x.isSome) = true := by
              intro z
              have z2 : ∀ b ∈ fs.map (·.isSome), b = true := by
                intro b hb
                obtain ⟨f, hf, rfl⟩ := List.mem_map.mp hb
                rw [List.all_toArray, List.all_eq_true] at z
                exact z f hf
              rw [f1] at z2
              have := z2 (fullT (.tuple [])) (List.mem_map.mpr ⟨_, hex, rfl⟩)
              cases this
            rw [if_neg hno]
            cases fs with
            | nil => simp at f1
            | cons f0 fr =>
              rw [List.map_cons, List.map_cons] at f1
              have e0 : f0.isSome = true := by rw [(List.cons.inj f1).1]; obtain ⟨r0, rfl⟩ := ht d0 (by simp); (cases r0 with | nil => exact absurd rfl h0 | cons x r => rfl)
              rw [if_pos (by cases f0 with | none => simp at e0 | some f => simp)]
              exact wpAny_pure hq
  · exact SortsAt.data e hal (.inr hn) hu
end
end Sw

namespace Sw
open PySem PySem.Spec PyProof.Rows L2 PySem.W PySem.SeqAt PySem.Calls
/-! ### sorted(list) -/
section
variable {X : Cx}
theorem dp_each {K : PySem.W.Frag} {H : Hp} {pins : List (Addr × Obj)} {σ : L2.St} {s : Shared} {X : Cx} (I : Inv X pins σ H s) : ∀ {xs : List V} {ds : List PyData} {us : List Value}, DpAll X.K H xs ds → Vals xs us →
    EachIs (fun u (b : V × PyData) => RelV b.1 u) us (xs.zip ds) ∧ EachIs (fun u (b : V × PyData) => ∃ as, Reads s.heap u b.2 as) us (xs.zip ds)
  | _, _, _, .nil, .nil => ⟨.nil, .nil⟩
  | _, _, _, .cons h hs, .cons r rs => by
    obtain ⟨a, b⟩ := dp_each (K := K) I hs rs
    exact ⟨.cons r a, .cons (Dp.reads I _ _ _ h r) b⟩
theorem dp_len {K : PySem.W.Frag} {H : Hp} : ∀ {xs : List V} {ds : List PyData}, DpAll K H xs ds → xs.length = ds.length
  | _, _, .nil => rfl
  | _, _, .cons _ hs => by simp [dp_len hs]
theorem vals_each : ∀ {us : List Value} {bs : List (V × PyData)}, EachIs (fun u (b : V × PyData) => RelV b.1 u) us bs → Vals (bs.map (·.1)) us
  | _, _, .nil => .nil
  | _, _, .cons h t => .cons h (vals_each t)
def srtV (xs : List V) (ds : List PyData) : List V := ((xs.zip ds).mergeSort (dataLe false (·.2))).map (·.1)
def rSortG (K : PySem.W.Frag) : List V → Hp → VK → Prop := fun vs H Q => ∃ (a : Addr) (xs : List V) (ds : List PyData), vs = [V.ref a] ∧ SqL K H a xs ∧ DpAll K H xs ds ∧ AllAlike ds ∧ Sortable2 ds ∧ (∀ d ∈ ds, d.depth ≤ 60) ∧
  ∀ p, H p = none → Q (.ref p) (upd H p (.lst (srtV xs ds)))
theorem cr_sortG (hu : X.A.units + 65 < cLine) : CallR X (.builtin "sorted") (rSortG X.K) := by
  intro pins s σ H vs us Q I r h
  obtain ⟨a, xs, ds, rfl, hs, hd, hal, hk, hdp, q⟩ := h
  obtain ⟨its, rv, hl, hz⟩ := I.list hs
  obtain ⟨u, rfl, ru⟩ := vals1 r
  obtain rfl : u = Value.ref a := ru
  obtain ⟨e, er⟩ := dp_each (K := X.K) I hd rv
  have hlen := dp_len hd
  have hz2 : (xs.zip ds).map (·.2) = ds := List.map_snd_zip (by omega)
  have er' : EachIs (fun v (b : V × PyData) => ∃ as, Reads (sortingHeap (copyHeap s.heap its) (s.heap.objs.size + 1) its) v b.2 as) its (xs.zip ds) := er.mono fun _ _ ⟨as, r⟩ => ⟨as, PyProof.Rows.Reads.keeps (fun _ _ => sorting_copy_old) r⟩
  have hal' : AllAlike ((xs.zip ds).map (·.2)) := by rw [hz2]; exact hal
  refine sorted_vals hl.isList (sortsAt_any (s := { s with heap := sortingHeap (copyHeap s.heap its) (s.heap.objs.size + 1) its }) (each_map (R := fun v d => ∃ as, Reads (sortingHeap (copyHeap s.heap its) (s.heap.objs.size + 1) its) v d as) (fun b : V × PyData => b.2) er') hal' (by rw [hz2]; exact hk) (fun d hd' => ?_)) (by rw [← rv.length]; exact hz) ?_
  · rw [hz2] at hd'
    have := hdp d hd'
    have e1 : X.A.in1.in1.units ≤ X.A.units + 2 := by simp [Around.in1]
    omega
  · have vv := vals_each (sortVals_data (R := fun u (b : V × PyData) => RelV b.1 u) (enc := (·.2)) false e er' hal')
    obtain ⟨n, hn⟩ := sortedAll_at s.heap its (sortVals (dataKind (sortingHeap (copyHeap s.heap its) (s.heap.objs.size + 1) its) ((xs.zip ds).map (·.2))) false its its).toArray
    refine ⟨.ref (s.heap.objs.size + 1), upd H (s.heap.objs.size + 1) (.lst (srtV xs ds)), I.laid (t' := s.toks) (fun b o hb => sortedAll_old hb) (by omega) ⟨?_, _, n, vv, hn⟩, rfl, q _ (I.hok.fresh (by omega))⟩
    rw [srtV, List.length_map, (List.mergeSort_perm _ _).length_eq, List.length_zip, ← hlen, Nat.min_self]; exact hz
end
/-! by data -/
def srtD (ds : List DV) : List DV := ds.mergeSort (dataLe false pur)
def sortD : DC := fun ds st Q => match ds with
  | [.ref a] => (match lstAt st a with
    | some xs => (plains xs = true ∧ AllAlike (purs xs) ∧ Sortable2 (purs xs) ∧ deeps xs ≤ 60) ∧ ∀ p, st p = none → Q (.ref p) (put st p (.lst (srtD xs)))
    | none => False)
  | _ => False
theorem purs_map (ds : List DV) : purs ds = ds.map pur := by
  induction ds with
  | nil => rfl
  | cons d r ih => rw [purs, ih]; rfl
theorem dvs_zip {K : PySem.W.Frag} {H : Hp} : ∀ {ds : List DV} {vs : List V}, DVs K H ds vs → ∀ b ∈ vs.zip ds, DVr K H b.2 b.1
  | _, _, .nil, b, h => by cases h
  | _, _, .cons r t, b, h => by
    rcases List.mem_cons.mp h with rfl | h
    · exact r
    · exact dvs_zip t b h
theorem dvs_of_zip {K : PySem.W.Frag} {H : Hp} : ∀ {bs : List (V × DV)}, (∀ b ∈ bs, DVr K H b.2 b.1) → DVs K H (bs.map (·.2)) (bs.map (·.1))
  | [], _ => .nil
  | b :: r, h => .cons (h b (by simp)) (dvs_of_zip fun c hc => h c (by simp [hc]))
theorem srt_dvs {K : PySem.W.Frag} {H : Hp} {ds : List DV} {vs : List V} (h : DVs K H ds vs) : DVs K H (srtD ds) (srtV vs (purs ds)) := by
  have hl := h.length
  have e1 : srtV vs (purs ds) = ((vs.zip ds).mergeSort (dataLe false fun b => pur b.2)).map (·.1) := by
    unfold srtV
    rw [purs_map]
    have ez : vs.zip (ds.map pur) = (vs.zip ds).map (fun b => (b.1, pur b.2)) := by
      rw [List.zip_map_right]; rfl
    rw [ez, ← List.map_mergeSort (r := dataLe false fun b => pur b.2) (s := dataLe false (·.2)) (f := fun b : V × DV => (b.1, pur b.2)) (fun _ _ _ _ => rfl), List.map_map]
    rfl
  have e2 : srtD ds = ((vs.zip ds).mergeSort (dataLe false fun b => pur b.2)).map (·.2) := by
    unfold srtD
    rw [List.map_mergeSort (r := dataLe false fun b => pur b.2) (s := dataLe false pur) (f := fun b : V × DV => b.2) (fun _ _ _ _ => rfl), List.map_snd_zip (by omega)]
  rw [e1, e2]
  exact dvs_of_zip fun b hb => dvs_zip h b ((List.mergeSort_perm _ _).mem_iff.mp hb)
theorem purs_depths {ds : List DV} (h : plains ds = true) {n : Nat} (hd : deeps ds ≤ n) : ∀ d ∈ purs ds, d.depth ≤ n := by
  intro d hd'
  rw [purs_map] at hd'
  obtain ⟨e, he, rfl⟩ := List.mem_map.mp hd'
  rw [pur_depth (plains_mem.mp h e he)]
  exact deeps_le.mp hd e he
section
variable {X : Cx} {E : XK} {e : Expr} {me : ME} {pos : Pos}
theorem dc_sort : DCal X (rSortG X.K) sortD := by
  intro ds vs st H Qd Q g r h k
  cases r with
  | nil => exact h.elim
  | cons r1 rs =>
    cases rs with
    | cons _ _ => cases r1 <;> exact h.elim
    | nil =>
      cases r1 <;> try exact h.elim
      rename_i a
      simp only [sortD] at h
      split at h
      · rename_i xs e
        obtain ⟨ys, hq, hs⟩ := lstAt_sq g e
        obtain ⟨⟨h1, h2, h3, h4⟩, h5⟩ := h
        refine ⟨a, ys, purs xs, rfl, hq, Dats.dp g hs (dats_pur h1), h2, h3, purs_depths h1 h4, fun p hp => ?_⟩
        exact k _ _ _ _ (h5 p (g.free hp)) (.ref p) (g.new hp ⟨_, upd_same, (srt_dvs hs).mono (tupX_new hp)⟩) (Stp.new hp)
      · exact h.elim
/-! ### sorted(set(list)), the list of tuples of whole numbers -/
theorem sorted_setG {P : Program} {w : World} {A : Around} {E : Value → Shared → Prop} {s : Shared} {a : Addr} {L : List (Addr × List Int)} {es : Array (Int × Value)} {ep : Nat} {t : SetTable} {Q : Value → Shared → Prop} (R : SetTR P w s.heap a L es ep t) (hh : A.handled = none) (hu : A.units + 65 < cLine)
    (hQ : ∀ s' p (out : Array Value) (c : Nat) (L' : List (Addr × List Int)), (∀ b o, s.heap.get? b = some o → s'.heap.get? b = some o) → s'.gens = s.gens → s'.os = s.os → s.heap.objs.size ≤ p →
      s'.heap.get? p = some (seqObj "list" out c) → out.toList = L'.map (fun q => Value.ref q.1) → L'.Perm L → L'.Pairwise (fun q r => ¬ r.2 < q.2) → Q (.ref p) s') :
    wpAny (model P w) A (call (.builtin "sorted") [.ref a]) Q E s := by
  obtain ⟨o, ho, hex, hd⟩ := R.ob
  have hsz := R.size
  have hfew := R.few
  refine Calls.call_function_entry kind_sorted plain_sorted entry_sorted (args_sorted1 _) ?_
  unfold Builtin.«sorted»
  refine wpAny_bind (m := checkCount "sorted" 1 1 _) (wpAny_pure ?_)
  refine wpAny_bind (collect_set (A := A.in1) hh ⟨o, ho, hex.1, hd⟩ R.fits (by unfold scanBound; omega) R.tab.ris R.led fun s1 vs k1 hz g1 o1 pm => ?_)
  have hes : es.toList.map (·.2) = L.map fun q => Value.ref q.1 := by
    rw [R.rows]; unfold L2.rowsOf; rw [List.map_map] <;> rfl
  rw [hes] at pm
  obtain ⟨L1, pL1, eL1⟩ : ∃ L1 : List (Addr × List Int), L1.Perm L ∧ L1.map (fun q => Value.ref q.1) = vs := by
    have z : ∀ {us : List Value} {M : List (Addr × List Int)}, us.Perm (M.map fun q => Value.ref q.1) → ∃ L1 : List (Addr × List Int), L1.Perm M ∧ L1.map (fun q => Value.ref q.1) = us := by
      intro us
      induction us with
      | nil => intro M h; have := h.length_eq; simp at this; exact ⟨[], by rw [List.length_eq_zero_iff.mp this.symm], rfl⟩
      | cons u us ih =>
        intro M h
        have hu : u ∈ M.map fun q => Value.ref q.1 := h.mem_iff.mp (by simp)
        obtain ⟨q, hq, rfl⟩ := List.mem_map.mp hu
        obtain ⟨A1, B1, rfl⟩ := List.append_of_mem hq
        have pm2 : us.Perm ((A1 ++ B1).map fun q => Value.ref q.1) := by
          have : (Value.ref q.1 :: us).Perm (Value.ref q.1 :: (A1 ++ B1).map fun q => Value.ref q.1) := h.trans (by
            rw [List.map_append, List.map_cons, List.map_append]
            exact List.perm_middle)
          exact this.cons_inv
        obtain ⟨L1, p1, e1⟩ := ih pm2
        exact ⟨q :: L1, (p1.cons q).trans List.perm_middle.symm, by rw [List.map_cons, e1]⟩
    exact z pm
  subst eL1
  have hvl : L1.length < 64 := by rw [pL1.length_eq]; exact hfew
  refine wpAny_bind (wpAny_newList ?_ (by rw [List.length_map, sizeLine_eq]; omega))
  generalize hvs : L1.map (fun q => Value.ref q.1) = vs at *
  have hoL : (s1.heap.push (seqObj "list" vs.toArray 0)).get? s1.heap.objs.size = some (seqObj "list" vs.toArray 0) := Heap.get?_push_size _ rfl
  have rd : ∀ q ∈ L, ∀ h' : Heap, (∀ b u, s1.heap.get? b = some u → h'.get? b = some u) → ∃ as, Reads h' (.ref q.1) (.tuple (q.2.map .int)) as := fun q hq h' kp => by
    obtain ⟨oo, its, n, h1, h2, h3, h4⟩ := isT_keep (R.tup q hq) fun b u e => kp b u (k1 b u e)
    have h5 := ints_of_items (P := P) (w := w) h4
    have : ∀ {us : List Value} {ns : List Int}, IntsAre us ns → ∃ as, ReadsAll h' us (ns.map .int) as := by
      intro us ns z
      induction z with
      | nil => exact ⟨_, .nil⟩
      | cons n t _ ih => obtain ⟨as, ih⟩ := ih; exact ⟨_, .cons (.int n t) ih⟩
    obtain ⟨as, z⟩ := this h5
    exact ⟨_, .tuple h1 h2 h3 z⟩
  have esrt : EachIs (fun u (q : Addr × List Int) => u = Value.ref q.1) vs L1 := by
    rw [← hvs]
    clear hvs pL1 hvl
    induction L1 with
    | nil => exact .nil
    | cons q r ih => exact .cons rfl ih
  have hsub : ∀ q ∈ L1, q ∈ L := fun q hq => pL1.mem_iff.mp hq
  have er : EachIs (fun v (q : Addr × List Int) => ∃ as, Reads (sortingHeap (s1.heap.push (seqObj "list" vs.toArray 0)) s1.heap.objs.size vs) v (.tuple (q.2.map .int)) as) vs L1 :=
    (each_mem esrt).mono fun v q ⟨e, hq⟩ => by
      subst e
      exact rd q (hsub q hq) _ fun b u e => sortingHeap_old (Nat.ne_of_lt (Heap.lt_size e)) (Heap.get?_push_of_some _ e)
  have hal : AllAlike (L1.map fun q => PyData.tuple (q.2.map .int)) := fun d hd d' hd' => by
    obtain ⟨q, _, rfl⟩ := List.mem_map.mp hd
    obtain ⟨q', _, rfl⟩ := List.mem_map.mp hd'
    rw [alike]; exact alike_ints _ _
  have hk : Sortable2 (L1.map fun q => PyData.tuple (q.2.map .int)) := .inl fun d hd => by
    obtain ⟨q, _, rfl⟩ := List.mem_map.mp hd
    exact ⟨_, rfl⟩
  refine wpAny_bind (wpAny_holding (wpAny_call_entry_kw slot_list_sort ⟨_, hoL, rfl⟩ entry_list_sort (list_sort_vals (κ := dataKind (sortingHeap (s1.heap.push (seqObj "list" vs.toArray 0)) s1.heap.objs.size vs) (L1.map fun q => PyData.tuple (q.2.map .int))) hoL (sortsAt_any (s := { s1 with heap := sortingHeap (s1.heap.push (seqObj "list" vs.toArray 0)) s1.heap.objs.size vs }) (each_map (R := fun v d => ∃ as, Reads (sortingHeap (s1.heap.push (seqObj "list" vs.toArray 0)) s1.heap.objs.size vs) v d as) (fun q : Addr × List Int => PyData.tuple (q.2.map .int)) er) hal hk (fun d hd => ?_)) (by rw [← hvs, List.length_map, sizeLine_eq]; omega) ⟨_, rfl, ?_⟩) (args_list_sort _)))
  · obtain ⟨q, _, rfl⟩ := List.mem_map.mp hd
    have e1 : A.in1.in1.units ≤ A.units + 2 := by simp [Around.in1]
    rw [PyData.depth, depth_ints]
    omega
  · have vv := sortVals_data (R := fun u (q : Addr × List Int) => u = Value.ref q.1) (enc := fun q => PyData.tuple (q.2.map .int)) false esrt er hal
    obtain ⟨c, hc⟩ := sortedHeap_at (vs := vs) (out := (sortVals (dataKind (sortingHeap (s1.heap.push (seqObj "list" vs.toArray 0)) s1.heap.objs.size vs) (L1.map fun q => PyData.tuple (q.2.map .int))) false vs vs).toArray) hoL
    refine wpAny_pure ⟨_, rfl, hQ _ s1.heap.objs.size _ c (L1.mergeSort (dataLe false fun q => PyData.tuple (q.2.map .int))) (fun b u e => ?_) g1 o1 hz hc ?_ ((List.mergeSort_perm _ _).trans pL1) ?_⟩
    · have q := k1 b u e
      have hlt := Heap.lt_size q
      show (sortedHeap (s1.heap.push (seqObj "list" vs.toArray 0)) s1.heap.objs.size vs _).get? b = some u
      rw [sortedHeap_old (Nat.ne_of_lt hlt) (by rw [size_push']; exact Nat.lt_succ_of_lt hlt)]
      exact Heap.get?_push_of_some _ q
    · have : ∀ {us : List Value} {M : List (Addr × List Int)}, EachIs (fun u (q : Addr × List Int) => u = Value.ref q.1) us M → us = M.map fun q => Value.ref q.1 := by
        intro us M h
        induction h with
        | nil => rfl
        | cons h _ ih => rw [h, ih]; rfl
      simpa using this vv
    · have T := sortLe_total (listOrd itemOrd) false fun q : Addr × List Int => keyToks (PyData.tuple (q.2.map .int))
      have hp := List.pairwise_mergeSort (le := dataLe false fun q : Addr × List Int => PyData.tuple (q.2.map .int)) (fun a b c => T.trans a b c) (fun a b => by rw [Bool.or_eq_true]; exact T.total a b) L1
      refine hp.imp fun {q r} h => ?_
      have h' : (!dataLt (.tuple (r.2.map .int)) (.tuple (q.2.map .int))) = true := h
      rw [dataLt_tuple] at h'
      have h2 : (!rowLt (r.2.map .int) (q.2.map .int)) = true := h'
      rw [dataLt_ints] at h2
      simpa using h2
def rSortSetG (K : PySem.W.Frag) (P : Program) (w : World) : List V → Hp → VK → Prop := fun vs H Q => ∃ (a : Addr) (L : List (Addr × List Int)), vs = [V.ref a] ∧ H a = some (SetTO P w a L) ∧ (∀ p ∈ L, SqT K H p.1 (p.2.map V.int)) ∧
  ∀ (L' : List (Addr × List Int)) (p : Addr), L'.Perm L → (L'.map (·.2)).Nodup → L'.Pairwise (fun q r => ¬ r.2 < q.2) → H p = none → Q (.ref p) (upd H p (.lst (L'.map fun q => V.ref q.1)))
theorem cr_sortSetG (hc : X.calm = true) (hu : X.A.units + 65 < cLine) : CallR X (.builtin "sorted") (rSortSetG X.K X.prog X.w) := by
  intro pins s σ H vs us Q I r h
  obtain ⟨a, L, rfl, ha, hk, q⟩ := h
  have R0 : SetT0 X.prog X.w s.heap a L := (I.hok a _ ha).1
  obtain ⟨es, ep, t, R⟩ := R0.full fun p hp => I.isT (hk p hp)
  rw [Vals.ref1 r]
  refine sorted_setG R (I.ok.hd hc) hu fun s' p out c L' k g o hp hg hout pm pw => ?_
  have hfew : L'.length < 64 := by rw [pm.length_eq]; exact R.few
  have hlen : (L'.map fun q => V.ref q.1).length ≤ sizeLine := by rw [List.length_map, sizeLine_eq]; omega
  have hn : H p = none := I.hok.fresh hp
  have hv : Vals (L'.map fun q => V.ref q.1) out.toList := by rw [hout]; exact vals_of_refs L'
  have J : Inv X pins σ (upd H p (.lst (L'.map fun q => V.ref q.1))) { s with heap := s'.heap, gens := s'.gens, drawn := s'.drawn, toks := s'.toks } :=
    I.call (ch := []) (Un.laid k hp hn) (I.hok.laid k hp ⟨hlen, out.toList, c, hv, hg⟩) (by rw [g]; exact I.bare) (fun _ z => nomatch z)
  have e : s' = { s with heap := s'.heap, gens := s'.gens, drawn := s'.drawn, toks := s'.toks } := by
    cases s'
    cases s
    cases o
    rfl
  rw [e]
  exact ⟨.ref p, _, J, rfl, q L' p pm ((pm.map (·.2)).nodup_iff.mpr R.nd) pw hn⟩
def srtSetV (d : DV) (st : Sto) (Q : DV → Sto → Prop) : Prop := match d with
  | .ref a => (match lstAt st a with
    | some xs => ∃ ps : List Place, xs = ps.map encP ∧ ps.length < 64 ∧ ∀ (qs : List Place) (p : Addr), qs.Pairwise (· < ·) → (∀ x, x ∈ qs ↔ x ∈ ps) → st p = none → Q (.ref p) (put st p (.lst (qs.map encP)))
    | none => False)
  | _ => False
def mSortSet (m : ME) : ME := fun W ρ st Q => m W ρ st fun d st1 => srtSetV d st1 Q
theorem places_keys {K : PySem.W.Frag} {H : Hp} : ∀ {ps : List Place} {ys : List V}, DVs K H (ps.map encP) ys → ∃ ks : List (Addr × List Int), ys = ks.map (fun p => V.ref p.1) ∧ ks.map (·.2) = ps ∧ ∀ p ∈ ks, SqT K H p.1 (p.2.map V.int)
  | [], _, h => by cases h; exact ⟨[], rfl, rfl, fun p hp => nomatch hp⟩
  | p :: ps, _, h => by
    rw [List.map_cons] at h
    cases h with
    | cons r t =>
      obtain ⟨ks, h1, h2, h3⟩ := places_keys t
      unfold encP at r
      cases r with
      | @tup a xs _ hq hs =>
        rw [hs.ints] at hq
        refine ⟨(a, p) :: ks, by rw [h1]; rfl, by rw [List.map_cons, h2], fun q hq' => ?_⟩
        rcases List.mem_cons.mp hq' with rfl | hq'
        · exact hq
        · exact h3 q hq'
theorem lt_of_not {p q : Place} (h : ¬ q < p) (hne : p ≠ q) : p < q := Classical.byContradiction fun n => hne (List.le_antisymm (List.not_lt.mp h) (List.not_lt.mp n))
theorem de_sortset {p p1 pos1 : Pos} (hc : X.calm = true) (hu : X.A.units + 65 < cLine) (hs0 : X.mg "sorted" = none) (hs1 : X.mg "set" = none) (h : DE X E e me) (hg0 : Gl X "sorted" := by rfl) (hg1 : Gl X "set" := by rfl)
    (st1 : starEach [e] X.env = (false, eval e X.env) :: starEach [] X.env := by rfl) (st0 : starEach [.Call (.Name "set" p1) [e] [] pos1] X.env = (false, eval (.Call (.Name "set" p1) [e] [] pos1) X.env) :: starEach [] X.env := by rfl)
    (pl1 : (backTo pos1 (starEach [] X.env)).any (·.1) = false := by rfl) (pl0 : (backTo pos (starEach [] X.env)).any (·.1) = false := by rfl) :
    DE X E (.Call (.Name "sorted" p) [.Call (.Name "set" p1) [e] [] pos1] [] pos) (mSortSet me) := by
  obtain ⟨t, pt, q⟩ := h
  refine ⟨_, pe_callB (cr_sortSetG hc hu) hg0 hs0 (by decide +kernel) (pa_cons (pe_callTy (cr_setOfT hc (by omega)) hg1 hs1 (by decide +kernel) (pa_cons pt pa_nil st1) (by decide) (by decide) st1 pl1) pa_nil st0) (by decide) (by decide) st0 pl0, fun W ρ σ st H Qd Q S h k => ?_⟩
  refine q W ρ σ st H _ _ S h fun d st1 v H1 h1 r1 g1 s1 => ?_
  unfold srtSetV at h1
  split at h1
  · rename_i a
    cases r1
    split at h1
    · rename_i xs e1
      obtain ⟨ps, rfl, hl, hq⟩ := h1
      obtain ⟨ys, sq, hs⟩ := lstAt_sq g1 e1
      obtain ⟨ks, rfl, f2, f3⟩ := places_keys hs
      refine ⟨a, ks, rfl, sq, f3, by rw [← f2] at hl; simpa using hl, fun b L hb m1 m2 => ?_⟩
      have tx : TupX X.K H1 (upd H1 b (SetTO X.prog X.w b L)) := tupX_new hb
      refine ⟨b, L, rfl, upd_same, fun p hp => tx _ _ (f3 p (m1 p hp)), fun L' p pm nd pw hp => ?_⟩
      have g2 := g1.new0 (o := SetTO X.prog X.w b L) hb
      have s2 := s1.trans (Stp.new0 (st := st1) (o := SetTO X.prog X.w b L) hb)
      have np : st1 p = none := g2.free hp
      refine k _ _ _ _ (hq (L'.map (·.2)) p ?_ (fun x => ?_) np) (.ref p) (g2.new hp ⟨_, upd_same, ?_⟩) (s2.trans (Stp.new hp))
      · rw [List.pairwise_map]
        have nd' : L'.Pairwise (fun q r => q.2 ≠ r.2) := List.pairwise_map.mp nd
        exact (pw.and nd').imp fun {q r} z => lt_of_not z.1 z.2
      · rw [← f2]
        constructor
        · intro hx
          obtain ⟨q, hq', rfl⟩ := List.mem_map.mp hx
          exact List.mem_map.mpr ⟨q, m1 q (pm.mem_iff.mp hq'), rfl⟩
        · intro hx
          obtain ⟨q, hq', rfl⟩ := List.mem_map.mp hx
          exact (pm.map (·.2)).mem_iff.mpr (m2 q hq')
      · have tx2 : TupX X.K (upd H1 b (SetTO X.prog X.w b L)) (upd (upd H1 b (SetTO X.prog X.w b L)) p (.lst (L'.map fun q => V.ref q.1))) := tupX_new hp
        have hsq : ∀ q ∈ L', SqT X.K (upd (upd H1 b (SetTO X.prog X.w b L)) p (.lst (L'.map fun q => V.ref q.1))) q.1 (q.2.map V.int) := fun q hq' => tx2 _ _ (tx _ _ (f3 q (m1 q (pm.mem_iff.mp hq'))))
        generalize upd (upd H1 b (SetTO X.prog X.w b L)) p (.lst (L'.map fun q => V.ref q.1)) = H9 at hsq
        clear nd pw pm hq tx2
        induction L' with
        | nil => exact .nil
        | cons q r ih => exact .cons (.tup (hsq q (by simp)) .of_ints) (ih fun q hq' => hsq q (by simp [hq']))
    · exact h1.elim
  · exact h1.elim
theorem mSortSet_eq {m : ME} {W : XD} {ρ : Rho} {st : Sto} {Q : DV → Sto → Prop} : mSortSet m W ρ st Q = m W ρ st fun d st1 => srtSetV d st1 Q := rfl
def srtSetL (x : Option (List DV)) (st : Sto) (Q : DV → Sto → Prop) : Prop := match x with
  | some xs => ∃ ps : List Place, xs = ps.map encP ∧ ps.length < 64 ∧ ∀ (qs : List Place) (p : Addr), qs.Pairwise (· < ·) → (∀ x, x ∈ qs ↔ x ∈ ps) → st p = none → Q (.ref p) (put st p (.lst (qs.map encP)))
  | none => False
theorem srtSetV_r {a : Addr} {st : Sto} {Q : DV → Sto → Prop} : srtSetV (.ref a) st Q = srtSetL (lstAt st a) st Q := rfl
theorem srtSetL_s {xs : List DV} {st : Sto} {Q : DV → Sto → Prop} : srtSetL (some xs) st Q = ∃ ps : List Place, xs = ps.map encP ∧ ps.length < 64 ∧ ∀ (qs : List Place) (p : Addr), qs.Pairwise (· < ·) → (∀ x, x ∈ qs ↔ x ∈ ps) → st p = none → Q (.ref p) (put st p (.lst (qs.map encP))) := rfl
end
end Sw

/-! Places of terms, plainly. -/
namespace Sw
open PySem PySem.Spec PyProof.Rows L2
def atP : Tm → Place → Option Tm
  | t, [] => some t
  | t, k :: p => if 0 ≤ k then (match t.ps[k.toNat]? with | some u => atP u p | none => none) else none
theorem atP_nil (t : Tm) : atP t [] = some t := by cases t; rfl
theorem atP_cons {t u : Tm} {k : Int} {p : Place} (h : atP t (k :: p) = some u) : 0 ≤ k ∧ ∃ v, t.ps[k.toNat]? = some v ∧ atP v p = some u := by
  rw [atP] at h
  split at h
  · rename_i hk
    refine ⟨hk, ?_⟩
    cases q : t.ps[k.toNat]? with
    | none => rw [q] at h; cases h
    | some v => rw [q] at h; exact ⟨v, rfl, h⟩
  · cases h
theorem atP_nat {t v u : Tm} {k : Nat} {p : Place} (h : t.ps[k]? = some v) : atP t ((k : Int) :: p) = atP v p := by
  rw [atP, if_pos (by omega)]
  have : ((k : Int)).toNat = k := by omega
  rw [this, h]
theorem hl_mem : ∀ {ts : List Tm} {t : Tm}, t ∈ ts → high t ≤ highL ts ∧ size t ≤ sizeL ts
  | u :: us, t, h => by
    simp only [highL, sizeL]
    rcases List.mem_cons.mp h with rfl | h
    · omega
    · have := hl_mem h; omega
theorem atP_all : ∀ {p : Place} {t u : Tm}, atP t p = some u → (Ok t → Ok u) ∧ (∀ c, Made c t → Made c u) ∧ high u + p.length ≤ high t ∧ size u + p.length ≤ size t
  | [], t, u, h => by rw [atP_nil] at h; cases h; exact ⟨id, fun _ => id, by simp, by simp⟩
  | k :: p, ⟨w, ns, ps⟩, u, h => by
    obtain ⟨hk, v, e1, e2⟩ := atP_cons h
    have hm := List.mem_of_getElem? e1
    obtain ⟨a, b, c, d⟩ := atP_all e2
    have := hl_mem hm
    have mm : ∀ (c : Int) {ts : List Tm}, MadeL c ts → ∀ t ∈ ts, Made c t := by
      intro c ts
      induction ts with
      | nil => intro _ t h; cases h
      | cons x r ih => intro h t ht; exact (List.mem_cons.mp ht).elim (fun e => e ▸ h.1) (ih h.2 t)
    refine ⟨fun z => a (ok_mem z.2.2 v hm), fun c z => b c (mm c z.2.2 v hm), ?_, ?_⟩
    · simp only [high, List.length_cons]; simp only [Tm.ps] at this; omega
    · simp only [size, List.length_cons]; simp only [Tm.ps] at this; omega
mutual
theorem mem_places : ∀ (t : Tm) (p x : Place), x ∈ placesIn t p ↔ ∃ q u, x = p ++ q ∧ atP t q = some u
  | .mk w ns ps, p, x => by
    rw [placesIn, List.mem_cons, mem_placesL]
    constructor
    · rintro (rfl | ⟨i, q, v, u, rfl, e1, e2⟩)
      · exact ⟨[], _, by simp, atP_nil _⟩
      · exact ⟨((0 + i : Nat) : Int) :: q, u, rfl, by rw [atP_nat (v := v) (u := u) (by simpa [Tm.ps] using e1)]; exact e2⟩
    · rintro ⟨q, u, rfl, h⟩
      cases q with
      | nil => left; simp
      | cons k q =>
        right
        obtain ⟨hk, v, e1, e2⟩ := atP_cons h
        refine ⟨k.toNat, q, v, u, ?_, e1, e2⟩
        congr 2; omega
theorem mem_placesL : ∀ (ts : List Tm) (k : Nat) (p x : Place), x ∈ placesL ts k p ↔ ∃ i q v u, x = p ++ (((k + i : Nat) : Int) :: q) ∧ ts[i]? = some v ∧ atP v q = some u
  | [], k, p, x => by simp [placesL]
  | t :: r, k, p, x => by
    rw [placesL, List.mem_append, mem_places t, mem_placesL r]
    constructor
    · rintro (⟨q, u, rfl, h⟩ | ⟨i, q, v, u, rfl, e1, e2⟩)
      · exact ⟨0, q, t, u, by simp, rfl, h⟩
      · exact ⟨i + 1, q, v, u, by congr 3; omega, by simpa using e1, e2⟩
    · rintro ⟨i, q, v, u, rfl, e1, e2⟩
      cases i with
      | zero => left; simp at e1; subst e1; exact ⟨q, u, by simp, e2⟩
      | succ i => right; exact ⟨i, q, v, u, by congr 3; omega, by simpa using e1, e2⟩
end
theorem mem_places0 {t : Tm} {x : Place} : x ∈ placesIn t [] ↔ ∃ u, atP t x = some u := by
  rw [mem_places]
  constructor
  · rintro ⟨q, u, rfl, h⟩; exact ⟨u, by simpa using h⟩
  · rintro ⟨u, h⟩; exact ⟨x, u, by simp, h⟩
theorem lt_pre (p : Place) {a b : Place} (h : a < b) : p ++ a < p ++ b := by
  induction p with
  | nil => exact h
  | cons x p ih => exact List.Lex.cons ih
theorem lt_head (p : Place) {i j : Int} {a b : Place} (h : i < j) : p ++ (i :: a) < p ++ (j :: b) := lt_pre p (List.Lex.rel h)
mutual
theorem places_lt : ∀ (t : Tm) (p : Place), (placesIn t p).Pairwise (· < ·)
  | .mk w ns ps, p => by
    rw [placesIn, List.pairwise_cons]
    refine ⟨fun x hx => ?_, placesL_lt ps 0 p⟩
    obtain ⟨i, q, v, u, rfl, _, _⟩ := (mem_placesL ps 0 p x).mp hx
    have : p ++ [] < p ++ ((((0 + i : Nat) : Int)) :: q) := lt_pre p List.Lex.nil
    simpa using this
theorem placesL_lt : ∀ (ts : List Tm) (k : Nat) (p : Place), (placesL ts k p).Pairwise (· < ·)
  | [], k, p => by rw [placesL]; exact List.Pairwise.nil
  | t :: r, k, p => by
    rw [placesL, List.pairwise_append]
    refine ⟨places_lt t _, placesL_lt r (k + 1) p, fun x hx y hy => ?_⟩
    obtain ⟨q, u, rfl, _⟩ := (mem_places t _ x).mp hx
    obtain ⟨i, q', v, u', rfl, _, _⟩ := (mem_placesL r (k + 1) p y).mp hy
    rw [List.append_assoc]
    exact lt_head p (by omega)
end
/-- two rising lists of the same places are one -/
theorem rising_eq : ∀ {ps qs : List Place}, ps.Pairwise (· < ·) → qs.Pairwise (· < ·) → (∀ x, x ∈ ps ↔ x ∈ qs) → ps = qs := by
  intro ps qs h1 h2 h
  have n1 : ps.Nodup := h1.imp fun {a b} z e => by subst e; exact List.lt_irrefl _ z
  have n2 : qs.Nodup := h2.imp fun {a b} z e => by subst e; exact List.lt_irrefl _ z
  have pm : ps.Perm qs := (List.perm_ext_iff_of_nodup n1 n2).mpr h
  exact pm.eq_of_pairwise (fun a b _ _ x y => absurd (List.lt_trans x y) (List.lt_irrefl _)) h1 h2
def isDeed (t : Tm) (p : Place) : Bool := (atP t p).any fun u => u.w.deed
def deedsOf (t : Tm) : List Place := (placesIn t []).filter (isDeed t)
theorem flat_s (x : Str) : flatD (.str x) = some (.str x) := rfl
theorem flats_n : flatsD [] = some [] := rfl
theorem flats_2 (x y : Str) : flatsD [.str x, .str y] = some [.str x, .str y] := rfl
theorem flats_4 (x y z u : Str) : flatsD [.str x, .str y, .str z, .str u] = some [.str x, .str y, .str z, .str u] := rfl
theorem in_deeds (w : Wd) : inV (.str w.str) [.str "set", .str "add", .str "copy", .str "look"] = w.deed := by cases w <;> decide +kernel
theorem in_rb (w : Wd) : inV (.str w.str) [.str "row", .str "both"] = (decide (w = .row) || decide (w = .both)) := by cases w <;> decide +kernel
theorem in_ll (w : Wd) : inV (.str w.str) [.str "look", .str "lend"] = (decide (w = .look) || decide (w = .lend)) := by cases w <;> decide +kernel
/-- each turn of a comprehension leaves the store as it is -/
theorem lcL_pureM {α : Type} {g : MG} {mt : MT} {me : ME} {ρ : Rho} {st : Sto} {Q : List DV → Sto → Prop} (h : α → DV) (f : α → Option DV) : ∀ (xs : List α) (acc : List DV),
    (∀ x ∈ xs, ∀ R, R (f x) st → stepC g mt me ρ (h x) st R) → Q (acc ++ xs.filterMap f) st → lcL g mt me ρ (xs.map h) acc st Q
  | [], acc, _, q => by show Q acc st; simpa using q
  | d :: r, acc, hs, q => by
    have h1 := hs d (by simp) (fun o st => match o with | some x => lcL g mt me ρ (r.map h) (acc ++ [x]) st Q | none => lcL g mt me ρ (r.map h) acc st Q)
    have h2 : stepC g mt me ρ (h d) st (fun o st => match o with | some x => lcL g mt me ρ (r.map h) (acc ++ [x]) st Q | none => lcL g mt me ρ (r.map h) acc st Q) → lcL g mt me ρ ((d :: r).map h) acc st Q := fun z => z
    apply h2
    apply h1
    cases e : f d with
    | none => exact lcL_pureM h f r acc (fun d hd => hs d (by simp [hd])) (by simpa [e] using q)
    | some x => exact lcL_pureM h f r (acc ++ [x]) (fun d hd => hs d (by simp [hd])) (by simpa [e] using q)
theorem filterMap_if {α β : Type} (c : α → Bool) (h : α → β) : ∀ xs : List α, xs.filterMap (fun x => if c x = true then some (h x) else none) = (xs.filter c).map h
  | [] => rfl
  | x :: r => by
    rw [List.filterMap_cons, List.filter_cons]
    cases c x <;> simp [filterMap_if c h r]
theorem isDeed_at {t u : Tm} {p : Place} (h : atP t p = some u) : isDeed t p = u.w.deed := by simp [isDeed, h]
theorem enc_w (u : Tm) : enc u = .tup (.str u.w.str :: (u.ns.map DV.int ++ encs u.ps)) := by cases u; rw [enc]; rfl
/-- a loop with one invariant for all turns -/
theorem forL_inv {W : XD} {g : MG} {m : MS} {D : DEnds} (I : Rho → Sto → Prop) : ∀ (ds : List DV), (∀ d ∈ ds, ∀ ρ st, I ρ st → ∀ N : Rho → Sto → Prop, (∀ ρ2 st2, I ρ2 st2 → N ρ2 st2) → g W d ρ st fun ρ1 st1 => m W { D with nx := N, ct := N, bk := D.nx } ρ1 st1) →
    (∀ ρ st, I ρ st → D.nx ρ st) → ∀ ρ st, I ρ st → forL W g m D ds ρ st
  | [], _, hd, ρ, st, h => hd ρ st h
  | d :: r, hs, hd, ρ, st, h => hs d (by simp) ρ st h _ fun ρ2 st2 h2 => forL_inv I r (fun e he => hs e (by simp [he])) hd ρ2 st2 h2
theorem lstAt_new {st : Sto} {a p : Addr} {o : Ob} {xs : List DV} (h : lstAt st a = some xs) (hp : st p = none) : lstAt (put st p o) a = some xs := by
  obtain ⟨u, hu⟩ := lstAt_some h
  rw [lstAt_put (ne_some hu hp)]; exact h
theorem new_some {st : Sto} {a p : Addr} {o u : Ob} (h : st a = some u) (hp : st p = none) : put st p o a = some u := by rw [put_ne (ne_some h hp)]; exact h
def emp : Sto := fun _ => none
theorem emp_sub (st : Sto) : Sub emp st := fun a o h => by cases h
theorem mem_rangeD {n : Nat} {i : Int} {d : DV} (h : d ∈ rangeD i n) : ∃ j : Int, i ≤ j ∧ j < i + n ∧ d = .int j := by
  obtain ⟨k, hk, rfl⟩ := List.mem_map.mp h
  have := List.mem_range.mp hk
  exact ⟨_, by omega, by omega, rfl⟩
theorem isa_list : Ty.list.isa .list = true := rfl
theorem isa_tuple : Ty.tuple.isa .tuple = true := rfl
end Sw

/-! The end: what law is asked for, and the way from there to the statement. -/
namespace Sw
open PySem PySem.Spec PyProof.Rows L2
def sp_law : DSp := fun ds st Q _ => ∃ (s : Addr) (ns : List Int), ds = [.ref s] ∧ lstAt st s = some (ns.map DV.int) ∧ ns.length ≤ 63 ∧ Q (.bl true) emp
theorem fn_okF {P : Program} {w : World} {K : PySem.W.Frag} {mg : Str → Option Value} {base : Heap} {x : Str} {s : Stmt} {f : Addr} {fd : FuncData} {N ps : List Str} {k : Nat} {sp : DSp} {m : MS} (F : Fun K x x s f fd) (S : FnScope N ps (defScope s))
    (hb : ∀ (f : Addr) (cdv : Value) (A : Around) (outer : List PySem.Env) (s0 : Shared) (H : Hp) (E : XK), Room k (A.deeper (envOfC x (defScope s) s0.heap.objs.size f cdv)) → DSs (cxOf (CX P w) P w K mg base N x (defScope s) f cdv A outer s0 H E) E (defBody s) m)
    (hsp : ∀ ds st Qd W, sp ds st Qd W → ds.length = ps.length ∧ m W { nx := fun _ st' => Rt Qd .non st', rt := Rt Qd } (startD N ds) st) : FnOk P w K mg base (CX P w) (k + 1) f fd ps (spOf P w K sp) :=
  fn_ok F S (fun cdv A outer s0 H E hr => hb f cdv A outer s0 H E hr) hsp
/-- none of the module's own objects is a list -/
def noL (K : PySem.W.Frag) : Bool := K.all fun p => match p.2.cls with | .type "list" => false | _ => true
theorem noL_no {K : PySem.W.Frag} (h : noL K = true) {a : Addr} {o : Obj} (e : K.lookup a = some o) (hc : o.cls = .type "list") : False := by
  unfold noL at h
  rw [List.all_eq_true] at h
  have hm : ∀ {K : List (Addr × Obj)}, K.lookup a = some o → (a, o) ∈ K := by
    intro K
    induction K with
    | nil => intro z; cases z
    | cons p r ih =>
      intro z
      rw [List.lookup_cons] at z
      split at z
      · rename_i q
        cases z
        have : a = p.1 := by simpa using q
        subst this
        exact List.mem_cons_self
      · exact List.mem_cons_of_mem _ (ih z)
  have z := h _ (hm e)
  simp only [hc] at z
  cases z
theorem law_asked {P : Program} {w : World} {K : PySem.W.Frag} {H : Hp} {a : Addr} {ns : List Int} (hl : ns.length ≤ 63) (hK : K.lookup a = none) (hS : SqL K H a (ns.map V.int)) : spOf P w K sp_law [.ref a] H (fun v _ => v = .bl true) fun _ _ _ => False := by
  refine ⟨[.ref a], put emp a (.rol (ns.map DV.int)), fun d _ => d = .bl true, fun _ _ _ => False, .cons (.ref a) .nil, fun b o h => ?_, ⟨a, ns, rfl, lstAt_rol put_same, hl, rfl⟩, fun d st' v H' hd r _ _ => ?_, fun C fs st' H' o h => h.elim⟩
  · by_cases e : b = a
    · subst e
      rw [put_same] at h
      cases h
      rcases hS with hS | ⟨o, its, n, z, _⟩
      · exact ⟨_, hS, .of_ints⟩
      · rw [hK] at z; cases z
    · rw [put_ne e] at h; cases h
  · subst hd; cases r; rfl
theorem sw_walk {l : PySem.W.OpenLaw} {q : Program} {loose : List Str} {XP : (Str → Option Value) → Heap → Prop} {YP : World → Heap → Prop} {d : DefRec} {K : Params → PySem.W.Frag} {k : Nat} (hn : l.most = some 63) (hdf : d.params.defaults = [])
    (hY : ∀ (w : World) (h : Heap), YP w h → (K w.params).In h) (hr : Room k callerA) (hL : ∀ P : Params, noL (K P) = true)
    (F : ∀ (w : World) (mg : Str → Option Value) (fa : Addr) (h : Heap), (K w.params).In h → h.Ns mainGlobals mg → mg d.name = some (.ref fa) →
      ∃ fd : FuncData, (∀ (s : Shared) (u : Value), BindsTo s fd ⟨[u], []⟩ [("script", u)]) ∧ ∀ base : Heap, (K w.params).In base → base.Ns mainGlobals mg → FnOk l.prog w (K w.params) mg base (CX l.prog w) k fa fd ["script"] (spOf l.prog w (K w.params) sp_law)) :
    PySem.W.WalkO q loose XP YP l.row.toRowW d [] (fun f vs => PySem.call f vs) := by
  refine Att.attach_call hn hdf fun w s0 s1 mg mb fa o pm cd doc a vs ns G Y ho hd hcd hmg hobj hints hlen hg => ?_
  have KX := hY w _ Y
  have hK : (K w.params).lookup a = none := by
    cases z : (K w.params).lookup a with
    | none => rfl
    | some u =>
      have e := KX a u z
      rw [hobj] at e
      cases e
      exact (noL_no (hL w.params) z rfl).elim
  obtain ⟨fd, hb, hF⟩ := F w mg fa _ KX G.T.g hmg
  exact law_call KX G.T.g G.T.b G.T.builtins G.T.nolimit hg hobj hints (Nat.le_trans hlen (by decide)) hr hF hb (fun H _ hS => law_asked hlen hK hS) fun _ _ _ ⟨_, _, _, _, _, _, _, _, _, _, _, _, z⟩ => z
end Sw

/-! Dicts whose keys are tuples, nested perhaps. -/
namespace Sw
open PySem PySem.Spec PyProof.Rows L2
abbrev KP3 (K : PySem.W.Frag) (H : Hp) : DV × DV → NestedKey × Addr × V → Prop := fun p q => keyOf p.1 = some q.1 ∧ q.1.depth ≤ 8 ∧ DVr K H p.1 (.ref q.2.1) ∧ DVr K H p.2 q.2.2
abbrev KX3 : NestedKey × Addr × V → NestedKey × Addr × Value → Prop := fun p q => p.1 = q.1 ∧ p.2.1 = q.2.1 ∧ RelV p.2.2 q.2.2
section
variable {X : Cx} {pins : List (Addr × Obj)} {σ : L2.St} {H : Hp} {s : Shared}
mutual
theorem nested_of (I : Inv X pins σ H s) : ∀ {d : DV} {v : V} {u : Value} {k : NestedKey}, DVr X.K H d v → RelV v u → keyOf d = some k → NestedIs s.heap k u
  | .non, _, _, _, .non, r, e => by rw [keyOf] at e; cases e; cases r; exact .none
  | .bl b, _, _, _, .bl _, r, e => by rw [keyOf] at e; cases e; cases r; exact .bool rfl
  | .int i, _, _, _, .int _, r, e => by rw [keyOf] at e; cases e; obtain ⟨t, rfl⟩ := r; exact .int i t
  | .str i, _, _, _, .str _, r, e => by rw [keyOf] at e; cases e; obtain ⟨t, rfl⟩ := r; exact .text i t
  | .tup ds, _, _, _, .tup hq hs, r, e => by
    rw [keyOf] at e
    obtain ⟨ks, e1, rfl⟩ := Option.map_eq_some_iff.mp e
    cases r
    obtain ⟨its, rv, ⟨o, ho, hc, n, hd⟩, _⟩ := I.tuple hq
    exact .tup ho hc hd (nested_all I hs (by simpa using rv) e1)
  | .ref a, _, _, _, _, r, e => by rw [keyOf] at e; cases e
theorem nested_all (I : Inv X pins σ H s) : ∀ {ds : List DV} {vs : List V} {us : List Value} {ks : List NestedKey}, DVs X.K H ds vs → Vals vs us → keysOf ds = some ks → NestedAll s.heap ks us
  | [], _, _, _, .nil, .nil, e => by rw [keysOf] at e; cases e; exact .nil
  | d :: ds, _, _, _, .cons h hs, .cons r rs, e => by
    rw [keysOf] at e
    split at e
    · rename_i k ks e1 e2
      cases e
      exact .cons (nested_of I h r e1) (nested_all I hs rs e2)
    · cases e
end
/-- the dict at a, as it is read -/
structure DicAt (P : Program) (w : World) (K : PySem.W.Frag) (H : Hp) (a : Addr) (kvs : List (DV × DV)) (ks : List (NestedKey × Addr × V)) : Prop where
  sys : (a == sysModules) = false
  rd : Rd H a (.ext (NDk P w a ks))
  pr : Paired (KP3 K H) kvs ks
/-! what the three lists have in common -/
def lookD (kvs : List (DV × DV)) (k : NestedKey) : Option DV := (kvs.find? fun p => decide (keyOf p.1 = some k)).map (·.2)
def storeD (kvs : List (DV × DV)) (k : NestedKey) (d e : DV) : List (DV × DV) := if (lookD kvs k).isSome then kvs.map (fun p => if keyOf p.1 = some k then (p.1, e) else p) else kvs ++ [(d, e)]
def lookN (ks : List (NestedKey × Addr × V)) (k : NestedKey) : Option V := (ks.find? fun p => decide (p.1 = k)).map (·.2.2)
def storeN (ks : List (NestedKey × Addr × V)) (k : NestedKey) (b : Addr) (v : V) : List (NestedKey × Addr × V) := if (lookN ks k).isSome then ks.map (fun p => if p.1 = k then (p.1, p.2.1, v) else p) else ks ++ [(k, b, v)]
section
variable {K : PySem.W.Frag} {H : Hp}
theorem lookD_cons {p : DV × DV} {kvs : List (DV × DV)} {k : NestedKey} : lookD (p :: kvs) k = if keyOf p.1 = some k then some p.2 else lookD kvs k := by
  unfold lookD; rw [List.find?_cons]; by_cases h : keyOf p.1 = some k <;> simp [h]
theorem lookN_cons {p : NestedKey × Addr × V} {kvs : List (NestedKey × Addr × V)} {k : NestedKey} : lookN (p :: kvs) k = if p.1 = k then some p.2.2 else lookN kvs k := by
  unfold lookN; rw [List.find?_cons]; by_cases h : p.1 = k <;> simp [h]
theorem atKey_cons {p : NestedKey × Addr × Value} {kvs : List (NestedKey × Addr × Value)} {k : NestedKey} : atKey (p :: kvs) k = if p.1 = k then some p.2 else atKey kvs k := by
  unfold atKey; rw [List.find?_cons]; by_cases h : p.1 = k <;> simp [h]
theorem look_DN {k : NestedKey} : ∀ {kvs : List (DV × DV)} {ks : List (NestedKey × Addr × V)}, Paired (KP3 K H) kvs ks → (∀ d, lookD kvs k = some d → ∃ v, lookN ks k = some v ∧ DVr K H d v) ∧ (lookD kvs k = none → lookN ks k = none)
  | _, _, .nil => ⟨fun d h => (by cases h), fun _ => rfl⟩
  | _, _, .cons (a := p) (b := q) r t => by
    obtain ⟨i1, i2⟩ := look_DN (k := k) t
    rw [lookD_cons, lookN_cons]
    by_cases h : q.1 = k
    · rw [if_pos (by rw [r.1, h]), if_pos h]
      exact ⟨fun d z => by cases z; exact ⟨_, rfl, r.2.2.2⟩, fun z => by cases z⟩
    · rw [if_neg (by rw [r.1]; intro z; cases z; exact h rfl), if_neg h]
      exact ⟨i1, i2⟩
theorem look_NX {k : NestedKey} : ∀ {ks : List (NestedKey × Addr × V)} {xs : List (NestedKey × Addr × Value)}, Paired KX3 ks xs → (∀ v, lookN ks k = some v → ∃ b u, atKey xs k = some (b, u) ∧ RelV v u) ∧ (lookN ks k = none → atKey xs k = none)
  | _, _, .nil => ⟨fun d h => (by cases h), fun _ => rfl⟩
  | _, _, .cons (a := p) (b := q) r t => by
    obtain ⟨i1, i2⟩ := look_NX (k := k) t
    rw [lookN_cons, atKey_cons]
    by_cases h : q.1 = k
    · rw [if_pos (by rw [r.1, h]), if_pos h]
      exact ⟨fun d z => by cases z; exact ⟨_, _, rfl, r.2.2⟩, fun z => by cases z⟩
    · rw [if_neg (by rw [r.1]; exact h), if_neg h]
      exact ⟨i1, i2⟩
theorem paired_append {α β : Type} {R : α → β → Prop} : ∀ {xs : List α} {ys : List β} {xs' : List α} {ys' : List β}, Paired R xs ys → Paired R xs' ys' → Paired R (xs ++ xs') (ys ++ ys')
  | _, _, _, _, .nil, h => h
  | _, _, _, _, .cons r t, h => .cons r (paired_append t h)
theorem store_DN {k : NestedKey} {kvs : List (DV × DV)} {ks : List (NestedKey × Addr × V)} {d e : DV} {b : Addr} {v : V} (h : Paired (KP3 K H) kvs ks) (hk : keyOf d = some k) (hd : k.depth ≤ 8) (rd : DVr K H d (.ref b)) (re : DVr K H e v) : Paired (KP3 K H) (storeD kvs k d e) (storeN ks k b v) := by
  have hi : (lookD kvs k).isSome = (lookN ks k).isSome := by
    obtain ⟨i1, i2⟩ := look_DN (k := k) h
    cases z : lookD kvs k with
    | none => rw [i2 z]; rfl
    | some d => obtain ⟨v, e, _⟩ := i1 d z; rw [e]; rfl
  unfold storeD storeN
  rw [hi]
  split
  · rename_i hz; clear hi hz
    induction h with
    | nil => exact .nil
    | @cons p q ps qs r t ih =>
      rw [List.map_cons, List.map_cons]
      refine .cons ?_ ih
      by_cases z : q.1 = k
      · rw [if_pos (by rw [r.1, z]), if_pos z]; exact ⟨r.1, r.2.1, r.2.2.1, re⟩
      · rw [if_neg (by rw [r.1]; intro w; cases w; exact z rfl), if_neg z]; exact r
  · exact paired_append h (.cons ⟨hk, hd, rd, re⟩ .nil)
theorem store_NX {k : NestedKey} {ks : List (NestedKey × Addr × V)} {xs : List (NestedKey × Addr × Value)} {b : Addr} {v : V} {u : Value} (h : Paired KX3 ks xs) (ru : RelV v u) : Paired KX3 (storeN ks k b v) (storedH xs k b u) := by
  have hi : (lookN ks k).isSome = (atKey xs k).isSome := by
    obtain ⟨i1, i2⟩ := look_NX (k := k) h
    cases z : lookN ks k with
    | none => rw [i2 z]; rfl
    | some d => obtain ⟨b, u, e, _⟩ := i1 d z; rw [e]; rfl
  unfold storeN storedH
  rw [hi]
  split
  · rename_i hz; clear hi hz
    induction h with
    | nil => exact .nil
    | @cons p q ps qs r t ih =>
      rw [List.map_cons, List.map_cons]
      refine .cons ?_ ih
      unfold putAt
      by_cases z : q.1 = k
      · rw [if_pos (by rw [r.1, z]), if_pos z]; exact ⟨r.1, r.2.1, ru⟩
      · rw [if_neg (by rw [r.1]; exact z), if_neg z]; exact r
  · exact paired_append h (.cons ⟨rfl, rfl, ru⟩ .nil)
end
theorem tri_is (I : Inv X pins σ H s) : ∀ {kvs : List (DV × DV)} {ks : List (NestedKey × Addr × V)} {xs : List (NestedKey × Addr × Value)}, Paired (KP3 X.K H) kvs ks → Paired KX3 ks xs → ∀ x ∈ xs, (nestedKind X.prog X.w).is s.heap x.1 x.2.1
  | _, _, _, .nil, .nil, x, h => by cases h
  | _, _, _, .cons r t, .cons r' t', x, h => by
    rcases List.mem_cons.mp h with rfl | h
    · rw [← r'.1, ← r'.2.1]
      exact ⟨nested_of I r.2.2.1 rfl r.1, r.2.1⟩
    · exact tri_is I t t' x h
theorem dic_heap {a : Addr} {kvs : List (DV × DV)} {ks : List (NestedKey × Addr × V)} (I : Inv X pins σ H s) (d : DicAt X.prog X.w X.K H a kvs ks) : ∃ xs, Paired KX3 ks xs ∧ s.heap.DictOfH (nestedKind X.prog X.w) a xs := by
  obtain ⟨⟨xs, pr, o, es, ep, h1, h2, h3, h4, h5⟩, _⟩ : ObjOk X.prog X.w H s.heap a (.ext (NDk X.prog X.w a ks)) := d.rd.ok I.hok
  exact ⟨xs, pr, o, es, ep, h1, h2, h3, h4, tri_is I d.pr pr, h5⟩
/-- a key at b -/
def KeyAt (K : PySem.W.Frag) (H : Hp) (k : NestedKey) (b : Addr) : Prop := ∃ d, DVr K H d (.ref b) ∧ keyOf d = some k ∧ k.depth ≤ 8
theorem KeyAt.is (I : Inv X pins σ H s) {k : NestedKey} {b : Addr} (h : KeyAt X.K H k b) : (nestedKind X.prog X.w).is s.heap k b := by
  obtain ⟨d, h1, h2, h3⟩ := h
  exact ⟨nested_of I h1 rfl h2, h3⟩
theorem paired_len {α β : Type} {R : α → β → Prop} : ∀ {xs : List α} {ys : List β}, Paired R xs ys → xs.length = ys.length
  | _, _, .nil => rfl
  | _, _, .cons _ t => by simp [paired_len t]
end
section
variable {X : Cx}
/-! ### d[k], k in d -/
def rNGet (P : Program) (w : World) (K : PySem.W.Frag) : R2 := fun x y H Q => ∃ a b kvs ks k v, x = .ref a ∧ y = .ref b ∧ DicAt P w K H a kvs ks ∧ KeyAt K H k b ∧ lookN ks k = some v ∧ Q v H
def tNGet (P : Program) (w : World) (K : PySem.W.Frag) (td ty : TE) : TE := fun σ H Q => td σ H fun x H1 => ty σ H1 fun y H2 => rNGet P w K x y H2 Q
theorem pe_nget {o i : Expr} {td ty : TE} {pos : Pos} (hu : X.A.units + 65 < cLine) (ho : PE X o td) (hi : PE X i ty) (hs : NoSl i) : PE X (.Subscript o i pos) (tNGet X.prog X.w X.K td ty) := by
  refine ⟨fun pins s σ H Q I h => ?_⟩
  refine subD_of PySem.F.slot_dict_getitem.lookup hs (thn (ho.run pins s σ H _ I h) fun u s1 ⟨x, H1, I1, rx, q1⟩ => thn (hi.run pins s1 σ H1 _ I1 q1) fun iv s2 ⟨y, H2, I2, ry, a, b, kvs, ks, k, v, ex, ey, d, ka, l, q2⟩ => ?_)
  subst ex ey
  cases rx
  cases ry
  obtain ⟨xs, p1, p2⟩ := dic_heap I2 d
  obtain ⟨b', u, e1, e2⟩ := (look_NX p1).1 v l
  refine ⟨p2.typeIs, wpAny_getItem_heap (show X.A.in1.units + 8 < cLine by show X.A.units + 1 + 8 < cLine; omega) (ka.is I2) p2 e1 ⟨v, H2, I2.tok _, e2, q2⟩⟩
def rNIn (P : Program) (w : World) (K : PySem.W.Frag) (neg : Bool) : R2 := fun x y H Q => ∃ a b kvs ks k, x = .ref b ∧ y = .ref a ∧ DicAt P w K H a kvs ks ∧ KeyAt K H k b ∧ Q (.bl (neg ^^ (lookN ks k).isSome)) H
theorem look_isSome {ks : List (NestedKey × Addr × V)} {xs : List (NestedKey × Addr × Value)} {k : NestedKey} (h : Paired KX3 ks xs) : (atKey xs k).isSome = (lookN ks k).isSome := by
  obtain ⟨i1, i2⟩ := look_NX (k := k) h
  cases z : lookN ks k with
  | none => rw [i2 z]; rfl
  | some d => obtain ⟨b, u, e, _⟩ := i1 d z; rw [e]; rfl
theorem op_nin (hu : X.A.units + 65 < cLine) : OpR X (compareOp .In) (rNIn X.prog X.w X.K false) := by
  intro pins s σ H x y v u Q I rx ry h
  obtain ⟨a, b, kvs, ks, k, rfl, rfl, d, ka, q⟩ := h
  cases rx
  cases ry
  obtain ⟨xs, p1, p2⟩ := dic_heap I d
  refine wpAny_in_heap (show X.A.in1.units + 8 < cLine by show X.A.units + 1 + 8 < cLine; omega) (ka.is I) d.sys p2 ⟨_, H, I.tok _, ?_, q⟩
  rw [look_isSome p1]; simp; rfl
theorem op_nnotin (hu : X.A.units + 65 < cLine) : OpR X (compareOp .NotIn) (rNIn X.prog X.w X.K true) := by
  intro pins s σ H x y v u Q I rx ry h
  obtain ⟨a, b, kvs, ks, k, rfl, rfl, d, ka, q⟩ := h
  cases rx
  cases ry
  obtain ⟨xs, p1, p2⟩ := dic_heap I d
  refine notIn_keyed (show X.A.in1.units + 8 < cLine by show X.A.units + 1 + 8 < cLine; omega) (ka.is I) d.sys ⟨xs, p2, rfl⟩ ⟨_, H, I.tok _, ?_, q⟩
  rw [valueAt_pairsH, Option.isSome_map, look_isSome p1]; simp; rfl
/-! ### d[k] = v -/
theorem ndk_ok {P : Program} {w : World} {H : Hp} {h : Heap} {a : Addr} {ks : List (NestedKey × Addr × V)} {xs : List (NestedKey × Addr × Value)} (p : Paired KX3 ks xs) (d : h.DictOfH (nestedKind P w) a xs) : ObjOk P w H h a (.ext (NDk P w a ks)) := by
  obtain ⟨o, es, ep, h1, h2, h3, h4, h5, h6⟩ := d
  refine ⟨⟨xs, p, o, es, ep, h1, h2, h3, h4, h6⟩, ⟨o, h1⟩, fun g1 g2 z k => ?_⟩
  obtain ⟨xs', p', o', es', ep', z1, z2, z3, z4, z5⟩ := z
  exact ⟨xs', p', o', es', ep', k o' z1, z2, z3, z4, z5⟩
def rNSet (P : Program) (w : World) (K : PySem.W.Frag) : TSet := fun o i v H Q => ∃ a b kvs ks k, o = .ref a ∧ i = .ref b ∧ DicAt P w K H a kvs ks ∧ H a = some (.ext (NDk P w a ks)) ∧ KeyAt K H k b ∧ ks.length ≤ sizeLine ∧ Q (upd H a (.ext (NDk P w a (storeN ks k b v))))
theorem set_nest (hu : X.A.units + 65 < cLine) : PSet X (rNSet X.prog X.w X.K) := by
  intro pins s σ H o i v ov iv u Q I ro ri rv h
  obtain ⟨a, b, kvs, ks, k, rfl, rfl, d, ha, ka, hz, q⟩ := h
  cases ro
  cases ri
  obtain ⟨xs, p1, p2⟩ := dic_heap I d
  refine wpAny_setItem_heap (hsz := by rw [← paired_len p1]; exact hz) (show X.A.in1.units + 8 < cLine by show X.A.units + 1 + 8 < cLine; omega) (ka.is I) p2 fun h' p3 hs => ?_
  obtain ⟨o, es, ep, z1, zr⟩ := id p3
  exact ⟨_, d_write I (by rw [ha]; exact True.intro) hs ⟨o, z1⟩ (ndk_ok (store_NX p1 rv) p3), q⟩
/-! ### d.setdefault(k, v) -/
def rNDef (P : Program) (w : World) (K : PySem.W.Frag) : V → List V → Hp → VK → Prop := fun x vs H Q => ∃ a b kvs ks k v, x = .ref a ∧ vs = [.ref b, v] ∧ DicAt P w K H a kvs ks ∧ H a = some (.ext (NDk P w a ks)) ∧ KeyAt K H k b ∧ ks.length ≤ sizeLine ∧
  match lookN ks k with | some u => Q u H | none => Q v (upd H a (.ext (NDk P w a (storeN ks k b v))))
theorem mt_setdefault (hu : X.A.units + 65 < cLine) : MtR X "dict.setdefault" (rNDef X.prog X.w X.K) := by
  intro pins s σ H x vs u us Q I rx r h
  obtain ⟨a, b, kvs, ks, k, v, rfl, rfl, d, ha, ka, hz, q⟩ := h
  cases rx
  obtain ⟨u1, u2, rfl, r1, r2⟩ := vals2 r
  cases r1
  obtain ⟨xs, p1, p2⟩ := dic_heap I d
  refine call_setdefault_heap (hsz := by rw [← paired_len p1]; exact hz) (show X.A.in1.units + 8 < cLine by show X.A.units + 1 + 8 < cLine; omega) (ka.is I) d.sys p2 (fun p hp => ?_) fun hn h' p3 hs => ?_
  · cases z : lookN ks k with
    | none => rw [(look_NX p1).2 z] at hp; cases hp
    | some y =>
      rw [z] at q
      obtain ⟨b', u', e1, e2⟩ := (look_NX p1).1 y z
      rw [e1] at hp; cases hp
      exact ⟨y, H, I.tok _, e2, q⟩
  · cases z : lookN ks k with
    | some y => obtain ⟨b', u', e1, e2⟩ := (look_NX p1).1 y z; rw [e1] at hn; cases hn
    | none =>
      rw [z] at q
      obtain ⟨o, es, ep, z1, zr⟩ := id p3
      exact ⟨v, _, d_write I (by rw [ha]; exact True.intro) hs ⟨o, z1⟩ (ndk_ok (store_NX p1 r2) p3), r2, q⟩
/-! ### {} -/
def tNNew (P : Program) (w : World) : TE := fun _ H Q => ∀ p, (p == sysModules) = false → H p = none → Q (.ref p) (upd H p (.ext (NDk P w p [])))
theorem pe_nnew {pos : Pos} : PE X (.Dict [] [] pos) (tNNew X.prog X.w) := ⟨fun pins s σ H Q I h =>
  wpAny_Dict_empty ⟨.ref s.heap.objs.size, _, I.laid (a := s.heap.objs.size) (o := .ext (NDk X.prog X.w s.heap.objs.size [])) (t' := s.toks) (fun _ _ q => Heap.get?_push_of_some _ q) (Nat.le_refl _) (ndk_ok .nil (Heap.DictOfH.new s.heap)), rfl, h _ (beq_eq_false_iff_ne.mpr (Ne.symm (Nat.ne_of_lt I.big))) (I.hok.fresh (Nat.le_refl _))⟩⟩
end
/-! ### by data -/
def dicAt (st : Sto) (a : Addr) : Option (List (DV × DV)) := match st a with | some (.dic kvs) => some kvs | some (.rod kvs) => some kvs | _ => none
theorem dicAt_is {P : Program} {w : World} {K : PySem.W.Frag} {st : Sto} {H : Hp} {a : Addr} {kvs : List (DV × DV)} (g : Agr P w K st H) (h : dicAt st a = some kvs) : ∃ ks, DicAt P w K H a kvs ks := by
  unfold dicAt at h
  split at h
  · rename_i q; cases h; obtain ⟨z, ks, e, p⟩ := g a _ q; exact ⟨ks, z, .inl e, p⟩
  · rename_i q; cases h; obtain ⟨z, ks, e, p⟩ := g a _ q; exact ⟨ks, z, .inr e, p⟩
  · cases h
/-- a tuple that can be a key -/
def keyT : DV → Option NestedKey
  | .tup ds => match keyOf (.tup ds) with | some k => if k.depth ≤ 8 then some k else none | none => none
  | _ => none
theorem keyT_at {K : PySem.W.Frag} {H : Hp} {d : DV} {v : V} {k : NestedKey} (r : DVr K H d v) (h : keyT d = some k) : ∃ b, v = .ref b ∧ KeyAt K H k b ∧ keyOf d = some k ∧ k.depth ≤ 8 := by
  unfold keyT at h
  split at h
  · rename_i ds
    split at h
    · rename_i k' e
      split at h
      · rename_i hd
        cases h
        cases r with
        | tup hq hs => exact ⟨_, rfl, ⟨_, .tup hq hs, e, hd⟩, e, hd⟩
      · cases h
    · cases h
  · cases h
section
variable {X : Cx} {E : XK} {o i e : Expr} {mo mi me : ME} {pos : Pos}
def ngetO (x : Option DV) (st : Sto) (Q : DV → Sto → Prop) : Prop := match x with | some d => Q d st | none => False
def ngetL (x : Option (List (DV × DV))) (k : Option NestedKey) (st : Sto) (Q : DV → Sto → Prop) : Prop := match x, k with | some kvs, some k => ngetO (lookD kvs k) st Q | _, _ => False
def ngetR (x y : DV) (st : Sto) (Q : DV → Sto → Prop) : Prop := match x with | .ref a => ngetL (dicAt st a) (keyT y) st Q | _ => False
def mNget (mo mi : ME) : ME := fun W ρ st Q => mo W ρ st fun x st1 => mi W ρ st1 fun y st2 => ngetR x y st2 Q
theorem de_nget (hu : X.A.units + 65 < cLine) (ho : DE X E o mo) (hi : DE X E i mi) (hs : NoSl i := by intro _ _; rfl) : DE X E (.Subscript o i pos) (mNget mo mi) := by
  obtain ⟨to, po, qo⟩ := ho
  obtain ⟨ti, pi, qi⟩ := hi
  refine ⟨_, pe_nget hu po pi hs, fun W ρ σ st H Qd Q S h k => ?_⟩
  refine qo W ρ σ st H _ _ S h fun x st1 v1 H1 h1 r1 g1 s1 => ?_
  refine qi W ρ σ st1 H1 _ _ (S.step g1 s1) h1 fun y st2 v2 H2 h2 r2 g2 s2 => ?_
  unfold ngetR at h2
  split at h2
  · rename_i a
    cases r1
    unfold ngetL at h2
    split at h2
    · rename_i kvs ky e1 e2
      unfold ngetO at h2
      split at h2
      · rename_i d e3
        obtain ⟨ks, da⟩ := dicAt_is g2 e1
        obtain ⟨b, rfl, ka, _⟩ := keyT_at r2 e2
        obtain ⟨v, l, rv⟩ := (look_DN da.pr).1 d e3
        exact ⟨a, b, kvs, ks, ky, v, rfl, rfl, da, ka, l, k _ _ _ _ h2 rv g2 (s1.trans s2)⟩
      · exact h2.elim
    · exact h2.elim
  · exact h2.elim
def ninL (neg : Bool) (x : Option (List (DV × DV))) (k : Option NestedKey) (st : Sto) (Q : DV → Sto → Prop) : Prop := match x, k with | some kvs, some k => Q (.bl (neg ^^ (lookD kvs k).isSome)) st | _, _ => False
def ninD (neg : Bool) : D2 := fun x y st Q => match y with | .ref a => ninL neg (dicAt st a) (keyT x) st Q | _ => False
theorem look_some {K : PySem.W.Frag} {H : Hp} {kvs : List (DV × DV)} {ks : List (NestedKey × Addr × V)} {k : NestedKey} (h : Paired (KP3 K H) kvs ks) : (lookN ks k).isSome = (lookD kvs k).isSome := by
  obtain ⟨i1, i2⟩ := look_DN (k := k) h
  cases z : lookD kvs k with
  | none => rw [i2 z]; rfl
  | some d => obtain ⟨v, e, _⟩ := i1 d z; rw [e]; rfl
theorem dop_nin (neg : Bool) : DOp X (rNIn X.prog X.w X.K neg) (ninD neg) := by
  intro x y vx vy st H Qd Q g rx ry h k
  unfold ninD at h
  split at h
  · rename_i a
    cases ry
    unfold ninL at h
    split at h
    · rename_i kvs ky e1 e2
      obtain ⟨ks, da⟩ := dicAt_is g e1
      obtain ⟨b, rfl, ka, _⟩ := keyT_at rx e2
      exact ⟨a, b, kvs, ks, ky, rfl, rfl, da, ka, by rw [look_some da.pr]; exact k.at g h (.bl _)⟩
    · exact h.elim
  · exact h.elim
def nsetL (a : Addr) (x : Option Ob) (k : Option NestedKey) (i d : DV) (st : Sto) (Q : Sto → Prop) : Prop := match x, k with | some (.dic kvs), some k => kvs.length ≤ sizeLine ∧ Q (put st a (.dic (storeD kvs k i d))) | _, _ => False
def nsetD : D3S := fun o i d st Q => match o with | .ref a => nsetL a (st a) (keyT i) i d st Q | _ => False
theorem dset_nest : DSetR X (rNSet X.prog X.w X.K) nsetD := by
  intro o i d vo vi v st H Qd Q g ro ri rd h k
  unfold nsetD at h
  split at h
  · rename_i a
    cases ro
    unfold nsetL at h
    split at h
    · rename_i kvs ky e1 e2
      obtain ⟨z, ks, e, p⟩ := g a _ e1
      obtain ⟨b, rfl, ka, e3, e4⟩ := keyT_at ri e2
      refine ⟨a, b, kvs, ks, ky, rfl, rfl, ⟨z, .inl e, p⟩, e, ka, by rw [← paired_len p]; exact h.1, k _ _ h.2 (g.set e1 fun t => ⟨z, _, upd_same, ?_⟩) (Stp.set e1 rfl)⟩
      exact store_DN (Paired.mapP p fun _ _ z => ⟨z.1, z.2.1, z.2.2.1.mono t, z.2.2.2.mono t⟩) e3 e4 (ri.mono t) (rd.mono t)
    · exact h.elim
  · exact h.elim
def mNnew : ME := fun _ _ st Q => ∀ p, st p = none → Q (.ref p) (put st p (.dic []))
theorem de_nnew : DE X E (.Dict [] [] pos) mNnew := by
  refine ⟨_, pe_nnew, fun W ρ σ st H Qd Q S h k p hz hp => ?_⟩
  exact k _ _ _ _ (h p (S.g.free hp)) (.ref p) (S.g.new hp ⟨hz, [], upd_same, .nil⟩) (Stp.new hp)
/-! ### methods -/
def IsDicV (P : Program) (w : World) (K : PySem.W.Frag) (x : V) (H : Hp) : Prop := ∃ a kvs ks, x = .ref a ∧ DicAt P w K H a kvs ks
def tNM (P : Program) (w : World) (K : PySem.W.Frag) (r : V → List V → Hp → VK → Prop) (to : TE) (t : TA) : TE := fun σ H Q => to σ H fun x H1 => IsDicV P w K x H1 ∧ t σ H1 fun xs H2 => r x xs H2 Q
theorem pe_nm {name : Str} {id : String} {r : V → List V → Hp → VK → Prop} {es : List Expr} {to : TE} {t : TA} {apos : Pos} (slot : Slot "dict" name id) (hty : typeOf (.builtin id) = pure (.type "method_descriptor")) (hm : MtR X id r) (ho : PE X o to) (ha : PA X (e :: es) t)
    (hbase : attributeBase o name X.env (eval o X.env) = eval o X.env)
    (hfew : ((backTo pos (starEach (e :: es) X.env)).all (fun x => !x.1) && (backToKw pos (keywordEach [] X.env)).all (fun x => x.1.isSome) && decide ((e :: es).length + ([] : List Keyword).length + (if ([] : List Keyword).isEmpty then 0 else 1) < 30)) = true)
    (hline : (apos.endLine == pos.line) = true) (hs : starEach (e :: es) X.env = (false, eval e X.env) :: starEach es X.env) (hplain : (backTo pos (starEach es X.env)).any (·.1) = false) :
    PE X (.Call (.Attribute o name apos) (e :: es) [] pos) (tNM X.prog X.w X.K r to t) := by
  refine ⟨fun pins s σ H Q I h => wpAny_Call_method_late hbase hfew hline rfl (thn (ho.run pins s σ H _ I h) fun v s1 ⟨x, H1, I1, r1, ⟨a, kvs, ks, ex, da⟩, q1⟩ => ?_)⟩
  subst ex
  cases r1
  obtain ⟨xs, p1, p2⟩ := dic_heap I1 da
  have p3 := p2
  obtain ⟨ob, es', ep, z1, z2, zr⟩ := p3
  refine ⟨"dict", id, PySem.F.plainAttrs_dict, slot, hty, p2.typeIs, fun b q => by cases q; exact ⟨ob, z1, z2.2.1⟩, ?_⟩
  have hA := ha.run pos pins s1 σ H1 _ I1 q1
  rw [hs] at hA ⊢
  refine Calls.callWith_builtin (by show (false || (backTo pos (starEach es X.env)).any (·.1)) = false; rw [hplain] <;> rfl) (Calls.evalArgs_plain (thn hA fun us s2 ⟨vs, H2, I2, r2, q2⟩ => ?_))
  exact hm pins s2 σ H2 (.ref a) vs _ us Q I2 (show L2.RelV (.ref a) (.ref a) from rfl) r2 q2
def isDic (x : DV) (st : Sto) : Prop := match x with | .ref a => (dicAt st a).isSome = true | _ => False
theorem de_nm {name : Str} {id : String} {r : V → List V → Hp → VK → Prop} {f : DM} {es : List Expr} {ms : MA} {apos : Pos} (slot : Slot "dict" name id) (hty : typeOf (.builtin id) = pure (.type "method_descriptor")) (hm : MtR X id r) (hd : DMet X "dict" r f) (ho : DE X E o mo) (ha : DA X E (e :: es) ms)
    (hbase : attributeBase o name X.env (eval o X.env) = eval o X.env := by rfl)
    (hfew : ((backTo pos (starEach (e :: es) X.env)).all (fun x => !x.1) && (backToKw pos (keywordEach [] X.env)).all (fun x => x.1.isSome) && decide ((e :: es).length + ([] : List Keyword).length + (if ([] : List Keyword).isEmpty then 0 else 1) < 30)) = true := by rfl)
    (hline : (apos.endLine == pos.line) = true := by rfl) (hs : starEach (e :: es) X.env = (false, eval e X.env) :: starEach es X.env := by rfl) (hplain : (backTo pos (starEach es X.env)).any (·.1) = false := by rfl) :
    DE X E (.Call (.Attribute o name apos) (e :: es) [] pos) (mMet isDic f mo ms) := by
  obtain ⟨to, po, qo⟩ := ho
  obtain ⟨t, pt, qt⟩ := ha
  refine ⟨_, pe_nm slot hty hm po pt hbase hfew hline hs hplain, fun W ρ σ st H Qd Q S h k => ?_⟩
  refine qo W ρ σ st H _ _ S h fun x st1 v1 H1 h1 r1 g1 s1 => ⟨?_, ?_⟩
  · obtain ⟨h1, _⟩ := h1
    cases x <;> try exact h1.elim
    cases r1
    obtain ⟨kvs, e1⟩ := Option.isSome_iff_exists.mp (show (dicAt st1 _).isSome = true from h1)
    obtain ⟨ks, da⟩ := dicAt_is g1 e1
    exact ⟨_, kvs, ks, rfl, da⟩
  · refine qt W ρ σ st1 H1 _ _ (S.step g1 s1) h1.2 fun ds st2 vs H2 h2 r2 g2 s2 => ?_
    exact hd x ds v1 vs st2 H2 Qd Q g2 (r1.mono (s2.tup g1)) r2 h2 fun d st' v H' a b c e => k d st' v H' a b c ((s1.trans s2).trans e)
def nsdL (a : Addr) (x : Option Ob) (k : Option NestedKey) (i d : DV) (st : Sto) (Q : DV → Sto → Prop) : Prop := match x, k with
  | some (.dic kvs), some k => kvs.length ≤ sizeLine ∧ (match lookD kvs k with | some e => Q e st | none => Q d (put st a (.dic (kvs ++ [(i, d)]))))
  | _, _ => False
def nsdD : DM := fun x ds st Q => match x, ds with | .ref a, [i, d] => nsdL a (st a) (keyT i) i d st Q | _, _ => False
theorem dm_setdefault : DMet X "dict" (rNDef X.prog X.w X.K) nsdD := by
  intro x ds v vs st H Qd Q g rx rs h k
  unfold nsdD at h
  split at h
  · rename_i a i d
    cases rx
    cases rs with
    | cons ri rs =>
      cases rs with
      | cons rd rs =>
        cases rs
        rename_i vi vd
        unfold nsdL at h
        split at h
        · rename_i kvs ky e1 e2
          obtain ⟨z, ks, e, p⟩ := g a _ e1
          obtain ⟨b, rfl, ka, e3, e4⟩ := keyT_at ri e2
          obtain ⟨i1, i2⟩ := look_DN (k := ky) p
          refine ⟨a, b, kvs, ks, ky, vd, rfl, rfl, ⟨z, .inl e, p⟩, e, ka, by rw [← paired_len p]; exact h.1, ?_⟩
          have h2 := h.2
          cases q : lookD kvs ky with
          | some y => rw [q] at h2; obtain ⟨u, e5, e6⟩ := i1 y q; rw [e5]; exact k.at g h2 e6
          | none =>
            rw [q] at h2
            rw [i2 q]
            have e7 : storeD kvs ky i d = kvs ++ [(i, d)] := by unfold storeD; rw [q]; rfl
            rw [← e7] at h2
            have t : TupX X.K H (upd H a (.ext (NDk X.prog X.w a (storeN ks ky b vd)))) := tupX_upd fun xs z => by rw [g.not_tup z] at e1; cases e1
            exact k _ _ _ _ h2 (rd.mono t) (g.set e1 fun t => ⟨z, _, upd_same, store_DN (Paired.mapP p fun _ _ z => ⟨z.1, z.2.1, z.2.2.1.mono t, z.2.2.2.mono t⟩) e3 e4 (ri.mono t) (rd.mono t)⟩) (Stp.set e1 rfl)
        · exact h.elim
  · exact h.elim
end
end Sw

/-! Classes and their instances. -/
namespace Sw
open PySem PySem.Spec PyProof.Rows L2
structure Klass (K : PySem.W.Frag) (mg : Str → Option Value) (x : Str) (C : Addr) (attrs : List Str) : Prop where
  cls : Cls K C
  no : ∀ f ∈ attrs, NoAttr K C f
  nm : mg x = some (.ref C)
/-- a def of the class -/
def DefM (K : PySem.W.Frag) (C : Addr) (m qual : Str) (s : Stmt) (ps : List Str) : Prop := ∃ f fd, Fun K m qual s f fd ∧ Meth K C m f ∧ Binds K fd ps []
def Met (P : Program) (w : World) (K : PySem.W.Frag) (mg : Str → Option Value) (base : Heap) (k : Nat) (C : Addr) (m : Str) (ps : List Str) (sp : DSp) : Prop :=
  ∃ f fd, FnOk P w K mg base (CX P w) k f fd ps (spOf P w K sp) ∧ Meth K C m f ∧ Binds K fd ps []
/-- its __init__ -/
def DefI (K : PySem.W.Frag) (C : Addr) (qual : Str) (s : Stmt) (ps : List Str) : Prop := ∃ f fd, Fun K "__init__" qual s f fd ∧ Mk K C f ∧ Binds K fd ps []
def Ini (P : Program) (w : World) (K : PySem.W.Frag) (mg : Str → Option Value) (base : Heap) (k : Nat) (C : Addr) (ps : List Str) (sp : DSp) : Prop :=
  ∃ f fd, FnOk P w K mg base (CX P w) k f fd ps (spOf P w K sp) ∧ Mk K C f ∧ Binds K fd ps []
section
variable {P : Program} {w : World} {K : PySem.W.Frag} {mg : Str → Option Value} {base : Heap} {C : Addr}
theorem met_ok {x qual : Str} {s : Stmt} {N ps : List Str} {k : Nat} {sp : DSp} {m : MS} (D : DefM K C x qual s ps) (S : FnScope N ps (defScope s))
    (hb : ∀ (f : Addr) (cdv : Value) (A : Around) (outer : List PySem.Env) (s0 : Shared) (H : Hp) (E : XK), Room k (A.deeper (envOfC qual (defScope s) s0.heap.objs.size f cdv)) → DSs (cxOf (CX P w) P w K mg base N qual (defScope s) f cdv A outer s0 H E) E (defBody s) m)
    (hsp : ∀ ds st Qd W, sp ds st Qd W → ds.length = ps.length ∧ m W { nx := fun _ st' => Rt Qd .non st', rt := Rt Qd } (startD N ds) st) : Met P w K mg base (k + 1) C x ps sp := by
  obtain ⟨f, fd, F, a, b⟩ := D
  exact ⟨f, fd, fn_ok F S (fun cdv A outer s0 H E hr => hb f cdv A outer s0 H E hr) hsp, a, b⟩
theorem ini_ok {qual : Str} {s : Stmt} {N ps : List Str} {k : Nat} {sp : DSp} {m : MS} (D : DefI K C qual s ps) (S : FnScope N ps (defScope s))
    (hb : ∀ (f : Addr) (cdv : Value) (A : Around) (outer : List PySem.Env) (s0 : Shared) (H : Hp) (E : XK), Room k (A.deeper (envOfC qual (defScope s) s0.heap.objs.size f cdv)) → DSs (cxOf (CX P w) P w K mg base N qual (defScope s) f cdv A outer s0 H E) E (defBody s) m)
    (hsp : ∀ ds st Qd W, sp ds st Qd W → ds.length = ps.length ∧ m W { nx := fun _ st' => Rt Qd .non st', rt := Rt Qd } (startD N ds) st) : Ini P w K mg base (k + 1) C ps sp := by
  obtain ⟨f, fd, F, a, b⟩ := D
  exact ⟨f, fd, fn_ok F S (fun cdv A outer s0 H E hr => hb f cdv A outer s0 H E hr) hsp, a, b⟩
theorem Met.mono {j k : Nat} {x : Str} {ps : List Str} {sp : DSp} (c : Met P w K mg base j C x ps sp) (h : j ≤ k) : Met P w K mg base k C x ps sp := let ⟨f, fd, F, a, b⟩ := c; ⟨f, fd, F.mono h, a, b⟩
theorem Ini.mono {j k : Nat} {ps : List Str} {sp : DSp} (c : Ini P w K mg base j C ps sp) (h : j ≤ k) : Ini P w K mg base k C ps sp := let ⟨f, fd, F, a, b⟩ := c; ⟨f, fd, F.mono h, a, b⟩
end
section
variable {X : Cx} {E : XK} {o e : Expr} {mo me : ME} {pos : Pos} {C : Addr} {x f : Str} {attrs : List Str}
/-! ### o.f -/
def lookF (fs : List (Str × DV)) (f : Str) : Option DV := fs.lookup f
theorem lookF_V {K : PySem.W.Frag} {H : Hp} {f : Str} : ∀ {fs : List (Str × DV)} {gs : List (Str × V)}, Paired (fun (p : Str × DV) (q : Str × V) => p.1 = q.1 ∧ DVr K H p.2 q.2) fs gs → (∀ d, lookF fs f = some d → ∃ v, gs.lookup f = some v ∧ DVr K H d v) ∧ (lookF fs f = none → gs.lookup f = none)
  | _, _, .nil => ⟨fun d h => (by cases h), fun _ => rfl⟩
  | _, _, .cons (a := p) (b := q) r t => by
    obtain ⟨i1, i2⟩ := lookF_V (f := f) t
    unfold lookF at i1 i2 ⊢
    rw [List.lookup_cons, List.lookup_cons, r.1]
    split
    · exact ⟨fun d z => by cases z; exact ⟨_, rfl, r.2⟩, fun z => by cases z⟩
    · exact ⟨i1, i2⟩
def fldO (x : Option DV) (st : Sto) (Q : DV → Sto → Prop) : Prop := match x with | some d => Q d st | none => False
def fldL (C : Addr) (f : Str) (x : Option Ob) (st : Sto) (Q : DV → Sto → Prop) : Prop := match x with | some (.ins D fs) => D = C ∧ fldO (lookF fs f) st Q | _ => False
def fldR (C : Addr) (f : Str) (d : DV) (st : Sto) (Q : DV → Sto → Prop) : Prop := match d with | .ref a => fldL C f (st a) st Q | _ => False
def mFld (C : Addr) (f : Str) (mo : ME) : ME := fun W ρ st Q => mo W ρ st fun d st1 => fldR C f d st1 Q
theorem de_fld (kl : Klass X.K X.mg x C attrs) (ho : DE X E o mo) (hf : f ∈ attrs := by decide) (hb : attributeBase o f X.env (eval o X.env) = eval o X.env := by rfl) : DE X E (.Attribute o f pos) (mFld C f mo) := by
  obtain ⟨t, p, q⟩ := ho
  refine ⟨_, pe_fld p hb, fun W ρ σ st H Qd Q S h k => ?_⟩
  refine q W ρ σ st H _ _ S h fun d st1 v1 H1 h1 r1 g1 s1 => ?_
  unfold fldR at h1
  split at h1
  · rename_i a
    cases r1
    unfold fldL at h1
    split at h1
    · rename_i D fs e1
      obtain ⟨rfl, h1⟩ := h1
      unfold fldO at h1
      split at h1
      · rename_i y e2
        obtain ⟨dx, gs, e3, e4⟩ := g1 a _ e1
        obtain ⟨v, e5, e6⟩ := (lookF_V e4).1 y e2
        exact ⟨a, D, dx, gs, v, rfl, e3, kl.cls, kl.no f hf, e5, k _ _ _ _ h1 e6 g1 s1⟩
      · exact h1.elim
    · exact h1.elim
  · exact h1.elim
/-! ### o.f = e -/
def putFD (f : Str) (d : DV) : List (Str × DV) → List (Str × DV)
  | [] => [(f, d)]
  | (g, x) :: r => if g = f then (g, d) :: r else (g, x) :: putFD f d r
theorem putF_V {K : PySem.W.Frag} {H : Hp} {f : Str} {d : DV} {v : V} (r : DVr K H d v) : ∀ {fs : List (Str × DV)} {gs : List (Str × V)}, Paired (fun (p : Str × DV) (q : Str × V) => p.1 = q.1 ∧ DVr K H p.2 q.2) fs gs → Paired (fun (p : Str × DV) (q : Str × V) => p.1 = q.1 ∧ DVr K H p.2 q.2) (putFD f d fs) (putF f v gs)
  | _, _, .nil => .cons ⟨rfl, r⟩ .nil
  | _, _, .cons (a := (g, x)) (b := (g', y)) z t => by
    have e : g = g' := z.1
    subst e
    unfold putFD putF
    split
    · exact .cons ⟨rfl, r⟩ t
    · exact .cons z (putF_V r t)
def setFL (C : Addr) (f : Str) (a : Addr) (x : Option Ob) (d : DV) (st : Sto) (Q : Sto → Prop) : Prop := match x with | some (.ins D fs) => D = C ∧ fs.length < 1000 ∧ Q (put st a (.ins C (putFD f d fs))) | _ => False
def setFR (C : Addr) (f : Str) (o d : DV) (st : Sto) (Q : Sto → Prop) : Prop := match o with | .ref a => setFL C f a (st a) d st Q | _ => False
def sFldD (C : Addr) (f : Str) (mo me : ME) : MS := fun W D ρ st => me W ρ st fun d st1 => mo W ρ st1 fun x st2 => setFR C f x d st2 fun st3 => D.nx ρ st3
theorem ds_fld {pos' : Pos} (kl : Klass X.K X.mg x C attrs) (ho : DE X E o mo) (he : DE X E e me) (hf : f ∈ attrs := by decide) (hs : swapsWith e (some (.Attribute o f pos')) pos.line X.env = pure false := by rfl) : DS X E (.Assign [.Attribute o f pos'] e pos) (sFldD C f mo me) := by
  obtain ⟨t, p, q⟩ := ho
  obtain ⟨t2, p2, q2⟩ := he
  refine ⟨_, ps_fld p p2 hs, fun W ρ σ st H Dd D S h R => ?_⟩
  refine q2 W ρ σ st H _ _ S h fun d st1 v1 H1 h1 r1 g1 s1 => ?_
  refine q W ρ σ st1 H1 _ _ (S.step g1 s1) h1 fun y st2 v2 H2 h2 r2 g2 s2 => ?_
  unfold setFR at h2
  split at h2
  · rename_i a
    cases r2
    unfold setFL at h2
    split at h2
    · rename_i D0 fs e1
      obtain ⟨rfl, hl, h2⟩ := h2
      obtain ⟨dx, gs, e3, e4⟩ := g2 a _ e1
      have hlen : ∀ {fs : List (Str × DV)} {gs : List (Str × V)}, Paired (fun (p : Str × DV) (q : Str × V) => p.1 = q.1 ∧ DVr X.K H2 p.2 q.2) fs gs → fs.length = gs.length := fun z => paired_len z
      have g3 := g2.set (u := .ins D0 (putFD f d fs)) (o := .ins D0 dx (putF f v1 gs)) e1 fun t => ⟨dx, _, upd_same, putF_V ((r1.mono (s2.tup g1)).mono t) (Paired.mapP e4 fun _ _ z => ⟨z.1, z.2.mono t⟩)⟩
      have s3 : Stp st2 H2 (put st2 a (.ins D0 (putFD f d fs))) (upd H2 a (.ins D0 dx (putF f v1 gs))) := Stp.set e1 rfl
      refine ⟨a, D0, dx, gs, rfl, e3, kl.cls, kl.no f hf, by rw [← hlen e4]; exact hl, R.nx _ _ _ _ h2 (((S.step g1 s1).step g2 s2).step g3 s3) ((s1.trans s2).trans s3)⟩
    · exact h2.elim
  · exact h2.elim
/-! ### o.m(..) -/
def insL (C : Addr) (m : Str) (x : Option Ob) : Prop := match x with | some (.ins D fs) => D = C ∧ lookF fs m = none | _ => False
def insR (C : Addr) (m : Str) (d : DV) (st : Sto) : Prop := match d with | .ref a => insL C m (st a) | _ => False
def mMeth (C : Addr) (m : Str) (sp : DSp) (mo : ME) (ms : MA) : ME := fun W ρ st Q => mo W ρ st fun x st1 => insR C m x st1 ∧ ms W ρ st1 fun ds st2 => sp (x :: ds) st2 Q W
theorem insR_is {P : Program} {w : World} {K : PySem.W.Frag} {st : Sto} {H : Hp} {m : Str} {d : DV} {v : V} (g : Agr P w K st H) (r : DVr K H d v) (h : insR C m d st) : ∃ a dx gs, v = .ref a ∧ H a = some (.ins C dx gs) ∧ gs.lookup m = none := by
  unfold insR at h
  split at h
  · rename_i a
    cases r
    unfold insL at h
    split at h
    · rename_i D fs e1
      obtain ⟨rfl, h⟩ := h
      obtain ⟨dx, gs, e3, e4⟩ := g a _ e1
      exact ⟨a, dx, gs, rfl, e3, (lookF_V e4).2 h⟩
    · exact h.elim
  · exact h.elim
theorem de_m {j k : Nat} {m : Str} {ps : List Str} {sp : DSp} {es : List Expr} {ms : MA} {apos : Pos} {pl : Sem Bool} (c : Met X.prog X.w X.K X.mg X.base j C m ps sp) (kl : Klass X.K X.mg x C attrs) (hr : Room k X.A) (hx : Passes (CX X.prog X.w) X E) (ho : DE X E o mo) (ha : DA X E (e :: es) ms) (hk : j ≤ k := by first | assumption | omega | decide)
    (hst : starEach (e :: es) X.env = (false, eval e X.env) :: starEach es X.env := by rfl) (hpl : (backTo pos (starEach es X.env)).any (·.1) = false := by rfl)
    (ht : eval (.Call (.Attribute o m apos) (e :: es) [] pos) X.env = (do
      let ov ← eval o X.env
      standAt apos.atName
      let (f, first) ← holding [ov] (getMethod ov m pl)
      callWith pos f first (backTo pos (starEach (e :: es) X.env)) (backToKw pos (keywordEach [] X.env))) := by rfl) :
    DE X E (.Call (.Attribute o m apos) (e :: es) [] pos) (mMeth C m sp mo ms) := by
  obtain ⟨f, fd, F, a, b⟩ := c
  obtain ⟨t, p, q⟩ := ho
  obtain ⟨t2, p2, q2⟩ := ha
  refine ⟨_, pe_meth (pl := pl) p kl.cls a F (hr.mono hk) b .nil hx p2 hst hpl ht, fun W ρ σ st H Qd Q S h k => ?_⟩
  refine q W ρ σ st H _ _ S h fun y st1 v1 H1 h1 r1 g1 s1 => ?_
  obtain ⟨a1, dx, gs, rfl, e1, e2⟩ := insR_is g1 r1 h1.1
  refine ⟨a1, dx, gs, rfl, e1, e2, ?_⟩
  refine q2 W ρ σ st1 H1 _ _ (S.step g1 s1) h1.2 fun ds st2 vs H2 h2 r2 g2 s2 => ?_
  exact ⟨y :: ds, st2, Qd, W, by rw [List.append_nil]; exact .cons (r1.mono (s2.tup g1)) r2, g2, h2, fun d st' v H' a b c e => k d st' v H' a b c ((s1.trans s2).trans e), ((S.step g1 s1).step g2 s2).x⟩
theorem de_m0 {j k : Nat} {m : Str} {ps : List Str} {sp : DSp} {apos : Pos} {pl : Sem Bool} (c : Met X.prog X.w X.K X.mg X.base j C m ps sp) (kl : Klass X.K X.mg x C attrs) (hr : Room k X.A) (hx : Passes (CX X.prog X.w) X E) (ho : DE X E o mo) (hk : j ≤ k := by first | assumption | omega | decide)
    (ht : eval (.Call (.Attribute o m apos) [] [] pos) X.env = (do
      let ov ← eval o X.env
      standAt apos.atName
      let (f, first) ← holding [ov] (getMethod ov m pl)
      callWith pos f first (backTo pos (starEach [] X.env)) (backToKw pos (keywordEach [] X.env))) := by rfl) :
    DE X E (.Call (.Attribute o m apos) [] [] pos) (mMeth C m sp mo aNil) := by
  obtain ⟨f, fd, F, a, b⟩ := c
  obtain ⟨t, p, q⟩ := ho
  refine ⟨_, pe_meth0 (pl := pl) p kl.cls a F (hr.mono hk) b .nil hx ht, fun W ρ σ st H Qd Q S h k => ?_⟩
  refine q W ρ σ st H _ _ S h fun y st1 v1 H1 h1 r1 g1 s1 => ?_
  obtain ⟨a1, dx, gs, rfl, e1, e2⟩ := insR_is g1 r1 h1.1
  refine ⟨a1, dx, gs, rfl, e1, e2, ?_⟩
  exact ⟨[y], st1, Qd, W, .cons r1 .nil, g1, h1.2, fun d st' v H' a b c e => k d st' v H' a b c (s1.trans e), (S.step g1 s1).x⟩
/-! ### C(..) -/
def mMake (C : Addr) (sp : DSp) (ms : MA) : ME := fun W ρ st Q => ms W ρ st fun ds st1 => ∀ x, st1 x = none → sp (.ref x :: ds) (put st1 x (.ins C [])) (fun d st2 => d = .non ∧ Q (.ref x) st2) W
theorem de_make {j k : Nat} {ps : List Str} {sp : DSp} {p : Pos} {es : List Expr} {ms : MA} (c : Ini X.prog X.w X.K X.mg X.base j C ps sp) (kl : Klass X.K X.mg x C attrs) (hr : Room k X.A) (hx : Passes (CX X.prog X.w) X E) (ha : DA X E (e :: es) ms) (hk : j + 1 ≤ k := by first | assumption | omega | decide) (hg : Gl X x := by rfl)
    (hdb : (x == ("__debug__" : Str)) = false := by decide) (he : starEach (e :: es) X.env = (false, eval e X.env) :: starEach es X.env := by rfl) (hpl : (backTo pos (starEach es X.env)).any (·.1) = false := by rfl) :
    DE X E (.Call (.Name x p) (e :: es) [] pos) (mMake C sp ms) := by
  obtain ⟨f, fd, F, M, b⟩ := c
  obtain ⟨t2, p2, q2⟩ := ha
  refine ⟨_, pe_make M F (hr.mono hk) hg kl.nm b .nil hx p2 hdb he hpl, fun W ρ σ st H Qd Q S h k => ?_⟩
  refine q2 W ρ σ st H _ _ S h fun ds st1 vs H1 h1 r1 g1 s1 x dx nx nd ne => ?_
  have g2 := g1.new0 (o := .own x) nd
  have s2 : Stp st1 H1 st1 (upd H1 dx (.own x)) := Stp.new0 nd
  have nx' : upd H1 dx (.own x) x = none := by rw [upd_ne (Ne.symm ne)]; exact nx
  have g3 := g2.new (u := .ins C []) (o := .ins C dx []) nx' ⟨dx, [], upd_same, .nil⟩
  have s3 : Stp st1 (upd H1 dx (.own x)) (put st1 x (.ins C [])) (upd (upd H1 dx (.own x)) x (.ins C dx [])) := Stp.new nx'
  refine ⟨.ref x :: ds, _, _, W, by rw [List.append_nil]; exact .cons (.ref x) ((r1.mono (s2.tup g1)).mono (s3.tup g2)), g3, h1 x (g2.free nx'), fun d st' v H' a b c e => ?_, (((S.step g1 s1).step g2 s2).step g3 s3).x⟩
  obtain ⟨rfl, a⟩ := a
  cases b
  exact ⟨rfl, k _ _ _ _ a (.ref x) c (((s1.trans s2).trans s3).trans e)⟩
end
end Sw

/-! Dicts by int and text keys: set, in, new. Dicts by tuple keys: walked. -/
namespace Sw
open PySem PySem.Spec PyProof.Rows L2
section
variable {X : Cx} {E : XK} {o i e tg : Expr} {mo mi me : ME} {pos : Pos}
/-! ### d[k] = v -/
def rKSet : TSet := fun o i v H Q => ∃ a kvs k, o = .ref a ∧ i = kV k ∧ H a = some (.dK kvs) ∧ kvs.length < sizeLine ∧ Q (upd H a (.dK (putK kvs k v)))
theorem set_k (hu : X.A.units + 65 < cLine) : PSet X rKSet := by
  intro pins s σ H o i v ov iv u Q I ro ri rv h
  obtain ⟨a, kvs, k, rfl, rfl, ha, hz, q⟩ := h
  cases ro
  exact d_setItem (by omega) I (.k ha hz) ri rv fun s' I' => ⟨_, I', q⟩
def putKD (kvs : List (Key × DV)) (k : Key) (d : DV) : List (Key × DV) := if (kvs.any fun kv => decide (kv.1 = k)) = true then kvs.map (fun kv => if kv.1 = k then (kv.1, d) else kv) else kvs ++ [(k, d)]
theorem putK_V {K : PySem.W.Frag} {H : Hp} {k : Key} {d : DV} {v : V} {kvs : List (Key × DV)} {gs : List (Key × V)} (h : Paired (fun (p : Key × DV) (q : Key × V) => p.1 = q.1 ∧ DVr K H p.2 q.2) kvs gs) (r : DVr K H d v) : Paired (fun (p : Key × DV) (q : Key × V) => p.1 = q.1 ∧ DVr K H p.2 q.2) (putKD kvs k d) (putK gs k v) := by
  have hi : (kvs.any fun kv => decide (kv.1 = k)) = (gs.any fun kv => decide (kv.1 = k)) := by
    induction h with
    | nil => rfl
    | cons z _ ih => rw [List.any_cons, List.any_cons, ih, z.1]
  unfold putKD putK
  rw [hi]
  split
  · rename_i hz; clear hi hz
    induction h with
    | nil => exact .nil
    | @cons p q ps qs z t ih =>
      rw [List.map_cons, List.map_cons]
      refine .cons ?_ ih
      rw [z.1]
      by_cases hq : q.1 = k
      · rw [if_pos hq, if_pos hq]; exact ⟨rfl, r⟩
      · rw [if_neg hq, if_neg hq]; exact z
  · exact paired_append h (.cons ⟨rfl, r⟩ .nil)
def ksetL (a : Addr) (x : Option Ob) (k : Option Key) (d : DV) (st : Sto) (Q : Sto → Prop) : Prop := match x, k with | some (.dck kvs), some k => kvs.length < sizeLine ∧ Q (put st a (.dck (putKD kvs k d))) | _, _ => False
def ksetD : D3S := fun o i d st Q => match o with | .ref a => ksetL a (st a) (keyK i) d st Q | _ => False
theorem dset_k : DSetR X rKSet ksetD := by
  intro o i d vo vi v st H Qd Q g ro ri rd h k
  unfold ksetD at h
  split at h
  · rename_i a
    cases ro
    unfold ksetL at h
    split at h
    · rename_i kvs ky e1 e2
      obtain ⟨gs, e, p⟩ := g a _ e1
      have := keyK_V ri e2
      subst this
      refine ⟨a, gs, ky, rfl, rfl, e, by rw [← paired_len p]; exact h.1, k _ _ h.2 (g.set e1 fun t => ⟨_, upd_same, putK_V (Paired.mapP p fun _ _ z => ⟨z.1, z.2.mono t⟩) (rd.mono t)⟩) (Stp.set e1 rfl)⟩
    · exact h.elim
  · exact h.elim
/-! ### k in d -/
def rKIn (neg : Bool) : R2 := fun x y H Q => ∃ a kvs k, x = kV k ∧ y = .ref a ∧ H a = some (.dK kvs) ∧ Q (.bl (neg ^^ (valV kvs k).isSome)) H
theorem op_kin (hu : X.A.units + 65 < cLine) : OpR X (compareOp .In) (rKIn false) := by
  intro pins s σ H x y v u Q I rx ry h
  obtain ⟨a, kvs, k, rfl, rfl, e, q⟩ := h
  cases ry
  exact d_in (by omega) I (.k e) rx fun s3 I3 => ⟨.bl _, H, I3, rfl, by simpa using q⟩
theorem op_knotin (hu : X.A.units + 65 < cLine) : OpR X (compareOp .NotIn) (rKIn true) := by
  intro pins s σ H x y v u Q I rx ry h
  obtain ⟨a, kvs, k, rfl, rfl, e, q⟩ := h
  cases ry
  exact d_notIn (by omega) I (.k e) rx fun s3 I3 => ⟨.bl _, H, I3, rfl, by simpa using q⟩
def kinL (neg : Bool) (x : Option Ob) (k : Option Key) (st : Sto) (Q : DV → Sto → Prop) : Prop := match x, k with | some (.dck kvs), some k => Q (.bl (neg ^^ (lookK kvs k).isSome)) st | _, _ => False
def kinD (neg : Bool) : D2 := fun x y st Q => match y with | .ref a => kinL neg (st a) (keyK x) st Q | _ => False
theorem lookK_isSome {K : PySem.W.Frag} {H : Hp} {k : Key} : ∀ {kvs : List (Key × DV)} {gs : List (Key × V)}, Paired (fun (p : Key × DV) (q : Key × V) => p.1 = q.1 ∧ DVr K H p.2 q.2) kvs gs → (lookK kvs k).isSome = (valV gs k).isSome
  | _, _, .nil => rfl
  | p :: ps, q :: qs, .cons r t => by
    by_cases e : p.1 = k
    · rw [valV_pos (r.1 ▸ e)]; simp [lookK, List.find?_cons, e]
    · rw [valV_neg (fun z => e (r.1.trans z)), ← lookK_isSome t]
      simp only [lookK, List.find?_cons, decide_eq_false e]
theorem dop_kin (neg : Bool) : DOp X (rKIn neg) (kinD neg) := by
  intro x y vx vy st H Qd Q g rx ry h k
  unfold kinD at h
  split at h
  · rename_i a
    cases ry
    unfold kinL at h
    split at h
    · rename_i kvs ky e1 e2
      obtain ⟨gs, e, p⟩ := g a _ e1
      have := keyK_V rx e2
      subst this
      exact ⟨a, gs, ky, rfl, rfl, e, by rw [← lookK_isSome p]; exact k.at g h (.bl _)⟩
    · exact h.elim
  · exact h.elim
def mKnew : ME := fun _ _ st Q => ∀ p, st p = none → Q (.ref p) (put st p (.dck []))
theorem de_knew : DE X E (.Dict [] [] pos) mKnew := by
  refine ⟨_, pe_dnewK, fun W ρ σ st H Qd Q S h k p hp => ?_⟩
  exact k _ _ _ _ (h p (S.g.free hp)) (.ref p) (S.g.new hp ⟨[], upd_same, .nil⟩) (Stp.new hp)
/-! ### for k in d, by tuple keys -/
def Itn (P : Program) (w : World) (d : Addr) (o : Obj) (ks : List (NestedKey × Addr × V)) : It :=
  ⟨fun i H => H d = some (.frz o (.ext (NDk P w d ks))) ∧ i < ks.length, fun i H x H' => H' = H ∧ ∃ q, ks[i]? = some q ∧ x = .ref q.2.1, fun i H => H d = some (.frz o (.ext (NDk P w d ks))) ∧ ks.length ≤ i⟩
theorem frzN {pins : List (Addr × Obj)} {σ : L2.St} {H : Hp} {s : Shared} {d : Addr} {ob : Obj} {ks : List (NestedKey × Addr × V)} (I : Inv X pins σ H s) (h : H d = some (.frz ob (.ext (NDk X.prog X.w d ks)))) :
    s.heap.get? d = some ob ∧ ob.ExactDict ∧ ∃ (es : Array DictEntry) (ep : Nat), ob.data = .dict es ep ∧ es.size = ks.length ∧ ∀ (i : Nat) q, ks[i]? = some q → ∃ en : DictEntry, es[i]? = some en ∧ en.key = .ref q.2.1 := by
  obtain ⟨hd, ⟨xs, pr, o', es, ep, h1, h2, h3, h4, h5⟩, h9⟩ := I.hok d _ h
  rw [hd] at h1
  cases h1
  refine ⟨hd, h2, es, ep, h3, ?_, fun i q e => ?_⟩
  · rw [size_of_entries h4, ← paired_len pr]
  · have : ∃ x, xs[i]? = some x ∧ KX3 q x := by
      clear h4 h5 h h9
      induction pr generalizing i with
      | nil => simp at e
      | cons r _ ih =>
        cases i with
        | zero => simp at e; subst e; exact ⟨_, rfl, r⟩
        | succ i => simp at e; obtain ⟨x, a, b⟩ := ih i e; exact ⟨x, by simpa using a, b⟩
    obtain ⟨x, e1, e2⟩ := this
    have z := entry_at h4 i
    rw [e1] at z
    exact ⟨_, z, by show Value.ref x.2.1 = _; rw [← e2.2.1]⟩
theorem turn_keysN {P : Program} {w : World} {K : PySem.W.Frag} {d : Addr} {ob : Obj} {es : Array DictEntry} {ep : Nat} {ks : List (NestedKey × Addr × V)} (it : Addr) (hod : ob.data = .dict es ep) : Turn P w K tg (Itn P w d ob ks) [it] it (fun i h => h.IsKeyIter it d i ks.length ep) where
  mem := by simp
  obj := fun i h st b hb => by
    cases (show b = it by simpa using hb)
    obtain ⟨oi, e, c, dd⟩ := st
    exact ⟨oi, e, fun v z => by rw [dd] at z; cases z⟩
  keep := fun i h h' st k => st.at fun oi e => k it (by simp) oi e
  item := by
    intro X hP hw hK hc i pins s σ H E I hf st hg
    subst hP hw hK
    obtain ⟨hd, hi⟩ := hg
    obtain ⟨f0, f1, f2, f3, f4, f5⟩ := hf it (by simp)
    obtain ⟨hgd, hx, es', ep', hdt, hsz, ent⟩ := frzN I hd
    obtain ⟨rfl, rfl⟩ := dict_ep hod hdt
    obtain ⟨q, hq⟩ : ∃ p, ks[i]? = some p := ⟨ks[i], List.getElem?_eq_getElem hi⟩
    obtain ⟨en, hen, hkey⟩ := ent i q hq
    refine next_key_item st hgd hdt hsz hen fun h' st' sb => ?_
    have I1 : Inv X pins σ H { s with heap := h' } := I.turned (t' := s.toks) (fun b ob hb e => (sb.2 b hb).trans e) f0 f1 f3 f4 f5
    obtain ⟨oi, e, c, dd⟩ := id st'
    exact ⟨en.key, rfl, go_of (s := { s with heap := h' }) e c dd (by decide) ⟨.ref q.2.1, H, I1, hkey, ⟨rfl, q, hq, rfl⟩, st', fun b hb => (hf b hb).1⟩⟩
  done := by
    intro X hP hw hK hc i pins s σ H E I hf st hg
    subst hP hw hK
    obtain ⟨hd, hi⟩ := hg
    obtain ⟨f0, f1, f2, f3, f4, f5⟩ := hf it (by simp)
    obtain ⟨hgd, hx, es', ep', hdt, hsz, ent⟩ := frzN I hd
    obtain ⟨rfl, rfl⟩ := dict_ep hod hdt
    exact next_key_end (I.ok.hd hc) st hgd hdt hsz hi fun h' eb => ⟨rfl, I.turned (t' := s.toks) (fun b ob hb e => eb b ob hb e) f0 f1 f3 f4 f5⟩
  self := fun A i s Q E st h => wpAny_pyIter_keyiter st h
def iKeysN (P : Program) (w : World) (td : TE) : TI := fun σ H R => td σ H fun x H1 => ∃ d o ks, x = .ref d ∧ (d == sysModules) = false ∧ H1 d = some (.frz o (.ext (NDk P w d ks))) ∧ R (Itn P w d o ks) H1
theorem pi_keysN {td : TE} (he : PE X e td) : PI X tg e (iKeysN X.prog X.w td) := by
  refine ⟨fun pins s σ H R I h => ?_⟩
  refine thn (he.run pins s σ H _ I h) fun u s1 ⟨x, H1, I1, rx, d, ob, ks, ex, hs, hd, q⟩ => ?_
  subst ex
  cases rx
  obtain ⟨hgd, hx, es, ep, hdt, hsz, ent⟩ := frzN I1 hd
  refine iter_keys hs hgd hx hdt (pi_one (tk := s1.toks) I1 _ (turn_keysN _ hdt) ⟨_, Heap.get?_push_size _ rfl, rfl, ?_⟩ q)
  rw [hsz] <;> rfl
/-- the dict is locked -/
def rodV (d : DV) (st : Sto) (Q : List DV → List Addr → Sto → Prop) : Prop := match d with
  | .ref a => (match st a with | some (.rod kvs) => Q (kvs.map (·.1)) [a] st | _ => False)
  | _ => False
def iDic (me : ME) : MI := fun W ρ st Q => me W ρ st fun d st1 => rodV d st1 Q
theorem paired_get2 {α β : Type} {R : α → β → Prop} : ∀ {xs : List α} {ys : List β}, Paired R xs ys → ∀ {i : Nat} {y : β}, ys[i]? = some y → ∃ x, xs[i]? = some x ∧ R x y
  | _, _, .nil, i, y, h => by simp at h
  | _, _, .cons r t, 0, y, h => by simp at h; subst h; exact ⟨_, rfl, r⟩
  | _, _, .cons r t, i + 1, y, h => by simp at h; obtain ⟨x, a, b⟩ := paired_get2 t h; exact ⟨x, by simpa using a, b⟩
theorem di_dic (h : DE X E e me) : DI X E tg e (iDic me) := by
  obtain ⟨t, p, q⟩ := h
  refine ⟨_, pi_keysN p, fun W ρ σ st H Qd R S h k => ?_⟩
  refine q W ρ σ st H _ _ S h fun d st1 v H1 h1 r1 g1 s1 => ?_
  unfold rodV at h1
  split at h1
  · rename_i a
    cases r1
    split at h1
    · rename_i kvs e1
      obtain ⟨z, ks, ⟨ob, e2⟩, pr⟩ := g1 a _ e1
      refine ⟨a, ob, ks, rfl, z, e2, k _ _ st1 H1 _ h1 g1 s1 (fun b hb => ?_) fun H2 hs2 tx => ?_⟩
      · cases (show b = a by simpa using hb)
        exact ⟨_, e1, .inl rfl⟩
      · have e3 : H2 a = some (.frz ob (.ext (NDk X.prog X.w a ks))) := by rw [hs2 a (by simp)]; exact e2
        have hl := paired_len pr
        refine ⟨fun i hi => ⟨⟨e3, by rw [List.length_map] at hi; omega⟩, fun x H3 y => ?_⟩, e3, by rw [List.length_map]; omega⟩
        obtain ⟨rfl, q, hq, rfl⟩ := y
        refine ⟨.inl rfl, ?_⟩
        obtain ⟨x, hx, hr⟩ := paired_get2 pr hq
        have : (kvs.map (·.1))[i] = x.1 := by
          have := List.getElem?_eq_getElem hi
          rw [List.getElem?_map, hx] at this
          exact (Option.some.inj this).symm
        rw [this]
        exact hr.2.2.1.mono tx
    · exact h1.elim
  · exact h1.elim
/-! ### while a dict is locked -/
def unlD (a : Addr) (kvs : List (DV × DV)) (D : DEnds) : DEnds := { nx := fun ρ st => D.nx ρ (put st a (.dic kvs)), rt := fun d st => D.rt d (put st a (.dic kvs)), bk := fun ρ st => D.bk ρ (put st a (.dic kvs)), ct := fun ρ st => D.ct ρ (put st a (.dic kvs)) }
def lockL (a : Addr) (x : Option Ob) (m : MS) (W : XD) (D : DEnds) (ρ : Rho) (st : Sto) : Prop := match x with | some (.dic kvs) => m W (unlD a kvs D) ρ (put st a (.rod kvs)) | _ => False
def lockR (d : Option DV) (m : MS) (W : XD) (D : DEnds) (ρ : Rho) (st : Sto) : Prop := match d with | some (.ref a) => lockL a (st a) m W D ρ st | _ => False
def sLockD (i : Nat) (m : MS) : MS := fun W D ρ st => lockR (ρ.getD i none) m W D ρ st
/-- from the locked state to one behind it, unlocked -/
theorem unlock_dic {P : Program} {w : World} {K : PySem.W.Frag} {st st' : Sto} {H H' : Hp} {a : Addr} {kvs : List (DV × DV)} {ks : List (NestedKey × Addr × V)} {od : Obj} (g : Agr P w K st H) (e1 : st a = some (.dic kvs)) (hz : (a == sysModules) = false) (e2 : H a = some (.ext (NDk P w a ks))) (pr : Paired (KP3 K H) kvs ks)
    (g' : Agr P w K st' H') (s : Stp (put st a (.rod kvs)) (upd H a (.frz od (.ext (NDk P w a ks)))) st' H') : H' a = some (.frz od (.ext (NDk P w a ks))) ∧ Agr P w K (put st' a (.dic kvs)) (upd H' a (.ext (NDk P w a ks))) ∧ Stp st H (put st' a (.dic kvs)) (upd H' a (.ext (NDk P w a ks))) := by
  obtain ⟨z1, z2⟩ := s.ro a _ _ upd_same put_same rfl
  have t0 : TupX K H (upd H a (.frz od (.ext (NDk P w a ks)))) := tupX_upd fun xs z => by rcases z with z | ⟨o, z⟩ <;> · rw [e2] at z; cases z
  have g0 : Agr P w K (put st a (.rod kvs)) (upd H a (.frz od (.ext (NDk P w a ks)))) := g.set e1 fun t => ⟨hz, ks, ⟨od, upd_same⟩, Paired.mapP pr fun _ _ z => ⟨z.1, z.2.1, z.2.2.1.mono t, z.2.2.2.mono t⟩⟩
  have t1 : TupX K (upd H a (.frz od (.ext (NDk P w a ks)))) H' := s.tup g0
  have t2 : TupX K H' (upd H' a (.ext (NDk P w a ks))) := tupX_upd fun xs z => by rcases z with z | ⟨o, z⟩ <;> · rw [z1] at z; cases z
  refine ⟨z1, fun b o q => ?_, fun b o q n => ?_, fun b o q n => ?_, fun b u o q n i => ?_, fun b z => upd_gone (s.all b (upd_gone z))⟩
  · by_cases hb : b = a
    · subst hb
      rw [put_same] at q
      cases q
      exact ⟨hz, ks, upd_same, Paired.mapP pr fun _ _ z => ⟨z.1, z.2.1, ((z.2.2.1.mono t0).mono t1).mono t2, ((z.2.2.2.mono t0).mono t1).mono t2⟩⟩
    · rw [put_ne hb] at q
      exact (g' b o q).mono t2 (upd_ne hb)
  · have hb : b ≠ a := by rintro rfl; rw [e1] at n; cases n
    rw [upd_ne hb]
    exact s.keep b o (by rw [upd_ne hb]; exact q) (by rw [put_ne hb]; exact n)
  · have hb : b ≠ a := by rintro rfl; rw [e1] at n; cases n
    rw [put_ne hb]
    exact s.dom b o (by rw [upd_ne hb]; exact q) (by rw [put_ne hb]; exact n)
  · have hb : b ≠ a := by rintro rfl; rw [e1] at n; cases n; cases i
    rw [upd_ne hb, put_ne hb]
    exact s.ro b u o (by rw [upd_ne hb]; exact q) (by rw [put_ne hb]; exact n) i
theorem ds_lockD {s0 : Stmt} {m : MS} (i : Nat) (h : DS X E s0 m) : DS X E s0 (sLockD i m) := by
  obtain ⟨t, p, q⟩ := h
  refine ⟨_, ps_lock p, fun W ρ σ st H Dd D S h R => ?_⟩
  unfold sLockD lockR at h
  split at h
  · rename_i a ea
    unfold lockL at h
    split at h
    · rename_i kvs e1
      obtain ⟨hz, ks, e2, pr⟩ := S.g a _ e1
      refine ⟨a, _, e2, True.intro, fun od => ?_⟩
      have g0 : Agr X.prog X.w X.K (put st a (.rod kvs)) (upd H a (.frz od (.ext (NDk X.prog X.w a ks)))) := S.g.set e1 fun t => ⟨hz, ks, ⟨od, upd_same⟩, Paired.mapP pr fun _ _ z => ⟨z.1, z.2.1, z.2.2.1.mono t, z.2.2.2.mono t⟩⟩
      have s0 : Stp st H (put st a (.rod kvs)) (upd H a (.frz od (.ext (NDk X.prog X.w a ks)))) := Stp.set e1 rfl
      have S1 := S.step g0 s0
      refine q W ρ σ _ _ _ _ S1 h ⟨fun ρ1 σ1 st1 H1 a1 b1 c1 => ?_, fun d st1 v H1 a1 b1 c1 e => ?_, fun ρ1 σ1 st1 H1 a1 b1 c1 => ?_, fun ρ1 σ1 st1 H1 a1 b1 c1 => ?_⟩
      · obtain ⟨z1, z2, z3⟩ := unlock_dic S.g e1 hz e2 pr b1.g c1
        have t2 : TupX X.K H1 (upd H1 a (.ext (NDk X.prog X.w a ks))) := tupX_upd fun xs z => by rcases z with z | ⟨o, z⟩ <;> · rw [z1] at z; cases z
        exact ⟨z1, R.nx _ _ _ _ a1 ⟨b1.r.mono t2, z2, (S.step z2 z3).x⟩ z3⟩
      · obtain ⟨z1, z2, z3⟩ := unlock_dic S.g e1 hz e2 pr c1 e
        have t2 : TupX X.K H1 (upd H1 a (.ext (NDk X.prog X.w a ks))) := tupX_upd fun xs z => by rcases z with z | ⟨o, z⟩ <;> · rw [z1] at z; cases z
        exact ⟨z1, R.rt _ _ _ _ a1 (b1.mono t2) z2 z3⟩
      · obtain ⟨z1, z2, z3⟩ := unlock_dic S.g e1 hz e2 pr b1.g c1
        have t2 : TupX X.K H1 (upd H1 a (.ext (NDk X.prog X.w a ks))) := tupX_upd fun xs z => by rcases z with z | ⟨o, z⟩ <;> · rw [z1] at z; cases z
        exact ⟨z1, R.bk _ _ _ _ a1 ⟨b1.r.mono t2, z2, (S.step z2 z3).x⟩ z3⟩
      · obtain ⟨z1, z2, z3⟩ := unlock_dic S.g e1 hz e2 pr b1.g c1
        have t2 : TupX X.K H1 (upd H1 a (.ext (NDk X.prog X.w a ks))) := tupX_upd fun xs z => by rcases z with z | ⟨o, z⟩ <;> · rw [z1] at z; cases z
        exact ⟨z1, R.ct _ _ _ _ a1 ⟨b1.r.mono t2, z2, (S.step z2 z3).x⟩ z3⟩
    · exact h.elim
  · exact h.elim
end
end Sw

/-! What the operations on dicts and instances come to; maps by injective keys. -/
namespace Sw
open PySem PySem.Spec PyProof.Rows L2
section
variable {st : Sto} {Q : DV → Sto → Prop} {R : Sto → Prop} {a b : Addr} {d e x y : DV} {kvs : List (DV × DV)} {k : NestedKey} {W : XD} {ρ : Rho} {mo mi me : ME} {ms : MA} {D : DEnds} {C : Addr} {f : Str} {fs : List (Str × DV)} {sp : DSp} {m : MS}
theorem mNget_eq : mNget mo mi W ρ st Q = mo W ρ st fun x st1 => mi W ρ st1 fun y st2 => ngetR x y st2 Q := rfl
theorem ngetR_r : ngetR (.ref a) d st Q = ngetL (dicAt st a) (keyT d) st Q := rfl
theorem ngetL_s : ngetL (some kvs) (some k) st Q = ngetO (lookD kvs k) st Q := rfl
theorem ngetO_s : ngetO (some d) st Q = Q d st := rfl
theorem ninD_r {neg : Bool} : ninD neg d (.ref a) st Q = ninL neg (dicAt st a) (keyT d) st Q := rfl
theorem ninL_s {neg : Bool} : ninL neg (some kvs) (some k) st Q = Q (.bl (neg ^^ (lookD kvs k).isSome)) st := rfl
theorem nsetD_r : nsetD (.ref a) d e st R = nsetL a (st a) (keyT d) d e st R := rfl
theorem nsetL_s : nsetL a (some (.dic kvs)) (some k) d e st R = (kvs.length ≤ sizeLine ∧ R (put st a (.dic (storeD kvs k d e)))) := rfl
theorem nsdD_r : nsdD (.ref a) [d, e] st Q = nsdL a (st a) (keyT d) d e st Q := rfl
def nsdO (a : Addr) (kvs : List (DV × DV)) (x : Option DV) (d e : DV) (st : Sto) (Q : DV → Sto → Prop) : Prop := match x with | some y => Q y st | none => Q e (put st a (.dic (kvs ++ [(d, e)])))
theorem nsdL_s : nsdL a (some (.dic kvs)) (some k) d e st Q = (kvs.length ≤ sizeLine ∧ nsdO a kvs (lookD kvs k) d e st Q) := rfl
theorem nsdO_s : nsdO a kvs (some x) d e st Q = Q x st := rfl
theorem nsdO_n : nsdO a kvs none d e st Q = Q e (put st a (.dic (kvs ++ [(d, e)]))) := rfl
theorem isDic_r : isDic (.ref a) st = ((dicAt st a).isSome = true) := rfl
theorem mNnew_eq : mNnew W ρ st Q = ∀ p, st p = none → Q (.ref p) (put st p (.dic [])) := rfl
theorem mKnew_eq : mKnew W ρ st Q = ∀ p, st p = none → Q (.ref p) (put st p (.dck [])) := rfl
theorem ksetD_r : ksetD (.ref a) d e st R = ksetL a (st a) (keyK d) e st R := rfl
theorem ksetL_s {kk : List (Key × DV)} {ky : Key} : ksetL a (some (.dck kk)) (some ky) e st R = (kk.length < sizeLine ∧ R (put st a (.dck (putKD kk ky e)))) := rfl
theorem kinD_r {neg : Bool} : kinD neg d (.ref a) st Q = kinL neg (st a) (keyK d) st Q := rfl
theorem kinL_s {neg : Bool} {kk : List (Key × DV)} {ky : Key} : kinL neg (some (.dck kk)) (some ky) st Q = Q (.bl (neg ^^ (lookK kk ky).isSome)) st := rfl
theorem mFld_eq : mFld C f mo W ρ st Q = mo W ρ st fun d st1 => fldR C f d st1 Q := rfl
theorem fldR_r : fldR C f (.ref a) st Q = fldL C f (st a) st Q := rfl
theorem fldL_s : fldL C f (some (.ins C fs)) st Q = fldO (lookF fs f) st Q := by unfold fldL; simp
theorem fldO_s : fldO (some d) st Q = Q d st := rfl
theorem sFldD_eq : sFldD C f mo me W D ρ st = me W ρ st fun d st1 => mo W ρ st1 fun x st2 => setFR C f x d st2 fun st3 => D.nx ρ st3 := rfl
theorem setFR_r : setFR C f (.ref a) d st R = setFL C f a (st a) d st R := rfl
theorem setFL_s : setFL C f a (some (.ins C fs)) d st R = (fs.length < 1000 ∧ R (put st a (.ins C (putFD f d fs)))) := by unfold setFL; simp
theorem mMeth_eq : mMeth C f sp mo ms W ρ st Q = mo W ρ st fun x st1 => insR C f x st1 ∧ ms W ρ st1 fun ds st2 => sp (x :: ds) st2 Q W := rfl
theorem insR_r : insR C f (.ref a) st = insL C f (st a) := rfl
theorem insL_s : insL C f (some (.ins C fs)) = (lookF fs f = none) := by unfold insL; simp
theorem mMake_eq : mMake C sp ms W ρ st Q = ms W ρ st fun ds st1 => ∀ x, st1 x = none → sp (.ref x :: ds) (put st1 x (.ins C [])) (fun d st2 => d = .non ∧ Q (.ref x) st2) W := rfl
theorem sLockD_eq {i : Nat} : sLockD i m W D ρ st = lockR (ρ.getD i none) m W D ρ st := rfl
theorem lockR_r : lockR (some (.ref a)) m W D ρ st = lockL a (st a) m W D ρ st := rfl
theorem lockL_s : lockL a (some (.dic kvs)) m W D ρ st = m W (unlD a kvs D) ρ (put st a (.rod kvs)) := rfl
theorem iDic_eq {T : List DV → List Addr → Sto → Prop} : iDic me W ρ st T = me W ρ st fun d st1 => rodV d st1 T := rfl
def rodL (a : Addr) (x : Option Ob) (st : Sto) (T : List DV → List Addr → Sto → Prop) : Prop := match x with | some (.rod kvs) => T (kvs.map (·.1)) [a] st | _ => False
theorem rodV_r {T : List DV → List Addr → Sto → Prop} : rodV (.ref a) st T = rodL a (st a) st T := rfl
theorem rodL_s {T : List DV → List Addr → Sto → Prop} : rodL a (some (.rod kvs)) st T = T (kvs.map (·.1)) [a] st := rfl
theorem dicAt_d (h : st a = some (.dic kvs)) : dicAt st a = some kvs := by unfold dicAt; rw [h]
theorem dicAt_r (h : st a = some (.rod kvs)) : dicAt st a = some kvs := by unfold dicAt; rw [h]
theorem dicAt_same : dicAt (put st a (.dic kvs)) a = some kvs := dicAt_d put_same
theorem dicAt_put {o : Ob} (h : b ≠ a) : dicAt (put st a o) b = dicAt st b := by unfold dicAt; rw [put_ne h]
theorem lockS_rod (h : st a = some (.rod kvs)) : lockS st [a] = st := by
  funext b; by_cases e : b = a
  · subst e; simp [lockS, h]
  · simp [lockS, e]
theorem unlockS_rod {st' : Sto} (h : st a = some (.rod kvs)) : unlockS st st' [a] = st' := by
  funext b; by_cases e : b = a
  · subst e; simp [unlockS, h]
  · simp [unlockS, e]
end
/-! maps whose keys are told apart -/
structure KeyEnc (α : Type) where
  enc : α → DV
  key : α → NestedKey
  isT : ∀ x, keyT (enc x) = some (key x)
  inj : ∀ x y, key x = key y → x = y
theorem keyT_of {d : DV} {k : NestedKey} (h : keyT d = some k) : keyOf d = some k := by
  unfold keyT at h
  split at h
  · split at h
    · split at h
      · rename_i e _; cases h; exact e
      · cases h
    · cases h
  · cases h
section
variable {α β : Type} [DecidableEq α] (E : KeyEnc α) (ve : β → DV)
def dmap (m : List (α × β)) : List (DV × DV) := m.map fun p => (E.enc p.1, ve p.2)
def assoc (m : List (α × β)) (x : α) : Option β := (m.find? fun p => decide (p.1 = x)).map (·.2)
theorem lookD_dmap (m : List (α × β)) (x : α) : lookD (dmap E ve m) (E.key x) = (assoc m x).map ve := by
  induction m with
  | nil => rfl
  | cons p r ih =>
    show lookD ((E.enc p.1, ve p.2) :: dmap E ve r) (E.key x) = _
    rw [lookD_cons, keyT_of (E.isT p.1)]
    unfold assoc
    rw [List.find?_cons]
    by_cases h : p.1 = x
    · subst h; simp
    · rw [if_neg (fun z => h (E.inj _ _ (Option.some.inj z))), ih, decide_eq_false h]; rfl
def assocPut (m : List (α × β)) (x : α) (v : β) : List (α × β) := if (assoc m x).isSome then m.map (fun p => if p.1 = x then (p.1, v) else p) else m ++ [(x, v)]
theorem storeD_dmap (m : List (α × β)) (x : α) (v : β) : storeD (dmap E ve m) (E.key x) (E.enc x) (ve v) = dmap E ve (assocPut m x v) := by
  unfold storeD assocPut
  rw [lookD_dmap, Option.isSome_map]
  split
  · unfold dmap
    rw [List.map_map, List.map_map]
    apply List.map_congr_left
    intro p _
    simp only [Function.comp]
    rw [keyT_of (E.isT p.1)]
    by_cases h : p.1 = x
    · subst h; simp
    · rw [if_neg (fun z => h (E.inj _ _ (Option.some.inj z))), if_neg h]
  · unfold dmap; rw [List.map_append]; rfl
end
/-! places and points as keys -/
theorem keysOf_ints : ∀ ns : List Int, keysOf (ns.map DV.int) = some (ns.map NestedKey.num)
  | [] => by rw [List.map_nil, keysOf]; rfl
  | n :: r => by rw [List.map_cons, keysOf, keysOf_ints r, keyOf]; rfl
theorem depth_nums : ∀ ns : List Int, NestedKey.depthAll (ns.map NestedKey.num) = 0
  | [] => by rw [List.map_nil, NestedKey.depthAll]
  | n :: r => by rw [List.map_cons, NestedKey.depthAll, depth_nums r, NestedKey.depth]; rfl
theorem num_inj {p q : List Int} (h : p.map NestedKey.num = q.map NestedKey.num) : p = q := (List.map_inj_right (fun _ _ e => NestedKey.num.inj e)).mp h
def plEnc : KeyEnc Place where
  enc := encP
  key := fun p => .tup (p.map .num)
  isT := fun p => by
    unfold keyT encP
    simp only
    rw [keyOf, keysOf_ints]
    simp only [Option.map_some]
    rw [if_pos (by rw [NestedKey.depth, depth_nums]; decide)]
  inj := fun p q h => num_inj (NestedKey.tup.inj h)
/-- a point: in or out, a place -/
abbrev Pt := Bool × Place
def ptW (b : Bool) : Str := if b then "in" else "out"
def encPt (x : Pt) : DV := .tup [.str (ptW x.1), encP x.2]
theorem ptW_inj {a b : Bool} (h : ptW a = ptW b) : a = b := by
  cases a <;> cases b <;> first | rfl | exact absurd h (by decide +kernel)
def ptEnc : KeyEnc Pt where
  enc := encPt
  key := fun x => .tup [.text (ptW x.1), .tup (x.2.map .num)]
  isT := fun x => by
    unfold keyT encPt encP
    simp only
    rw [keyOf, keysOf, keysOf, keysOf, keyOf, keyOf, keysOf_ints]
    simp only [Option.map_some]
    rw [if_pos (by simp only [NestedKey.depth, NestedKey.depthAll, depth_nums]; decide)]
  inj := fun x y h => by
    have h1 := NestedKey.tup.inj h
    have h2 := (List.cons.inj h1).1
    have h3 := (List.cons.inj (List.cons.inj h1).2).1
    exact Prod.ext (ptW_inj (NestedKey.text.inj h2)) (num_inj (NestedKey.tup.inj h3))
end Sw

/-! Sorting lists that hold the same; the ties of points; what is lent where. -/
namespace Sw
open PySem PySem.Spec PyProof.Rows L2 PySem.W
theorem lexLt_pre (t : List (Int ⊕ List Nat)) (z : Int ⊕ List Nat) : PyProof.Rows.lexLt itemOrd (t ++ []) (t ++ [z]) = true := by
  rw [lex_pre]; rfl
theorem toks_ne {x y : PyData} (h : alike x y = true) (e : keyToks x = keyToks y) : PyData.eqv x y = true := by
  cases q : PyData.eqv x y with
  | true => rfl
  | false =>
    have z := (toks_eqv x y h).2 q [] [Sum.inl 0]
    rw [e, lexLt_pre] at z
    rw [show PyProof.Rows.lexLt itemOrd (keyToks y) (keyToks y) = false from lex_irrefl _] at z
    cases z
/-- sorted lists of the same plain things are one -/
theorem srtD_perm {xs ys : List DV} (hp : xs.Perm ys) (pl : plains xs = true) (al : AllAlike (purs xs)) : srtD xs = srtD ys := by
  have T := sortLe_total (listOrd itemOrd) false fun d : DV => keyToks (pur d)
  have s1 := List.pairwise_mergeSort (le := dataLe false pur) (fun a b c => T.trans a b c) (fun a b => by rw [Bool.or_eq_true]; exact T.total a b) xs
  have s2 := List.pairwise_mergeSort (le := dataLe false pur) (fun a b c => T.trans a b c) (fun a b => by rw [Bool.or_eq_true]; exact T.total a b) ys
  have p : (srtD xs).Perm (srtD ys) := (List.mergeSort_perm xs _).trans (hp.trans (List.mergeSort_perm ys _).symm)
  refine p.eq_of_pairwise (fun a b ha hb h1 h2 => ?_) s1 s2
  have ma : a ∈ xs := (List.mergeSort_perm xs _).mem_iff.mp ha
  have mb : b ∈ xs := hp.mem_iff.mpr ((List.mergeSort_perm ys _).mem_iff.mp hb)
  have k1 : (!dataLt (pur b) (pur a)) = true := h1
  have k2 : (!dataLt (pur a) (pur b)) = true := h2
  have e : keyToks (pur a) = keyToks (pur b) := (listOrd itemOrd).total _ _ (by show dataLt (pur a) (pur b) = false; simpa using k2) (by show dataLt (pur b) (pur a) = false; simpa using k1)
  have al' := al (pur a) (by rw [purs_map]; exact List.mem_map.mpr ⟨a, ma, rfl⟩) (pur b) (by rw [purs_map]; exact List.mem_map.mpr ⟨b, mb, rfl⟩)
  exact (pur_eqv (plains_mem.mp pl a ma) (plains_mem.mp pl b mb)).mp (toks_ne al' e)
theorem plain_encPt (x : Pt) : plain (encPt x) = true := by
  unfold encPt; rw [plain, plains, plains, plain_encP, plains, plain]
  cases x.1 <;> decide +kernel
theorem deep_encPt (x : Pt) : deep (encPt x) = 2 := by
  unfold encPt; rw [deep, deeps, deeps, deep_encP, deeps, deep]; rfl; exact fun _ h => nomatch h
theorem plains_pts (xs : List Pt) : plains (xs.map encPt) = true := plains_mem.mpr fun d hd => by
  obtain ⟨p, _, rfl⟩ := List.mem_map.mp hd; exact plain_encPt p
theorem deeps_pts (xs : List Pt) : deeps (xs.map encPt) ≤ 60 := deeps_le.mpr fun d hd => by
  obtain ⟨p, _, rfl⟩ := List.mem_map.mp hd; rw [deep_encPt]; decide
theorem purs_ints (ns : List Int) : purs (ns.map DV.int) = ns.map PyData.int := by
  induction ns with
  | nil => rw [List.map_nil, purs]; rfl
  | cons n r ih => rw [List.map_cons, purs, ih, pur]; rfl
theorem pur_encPt (x : Pt) : pur (encPt x) = .tuple [.str (ptW x.1), .tuple (x.2.map .int)] := by
  unfold encPt encP; rw [pur, purs, purs, purs, pur, pur, purs_ints]
theorem alike_pts (xs : List Pt) : AllAlike (purs (xs.map encPt)) := fun d hd e he => by
  rw [purs_map, List.map_map] at hd he
  obtain ⟨x, _, rfl⟩ := List.mem_map.mp hd
  obtain ⟨y, _, rfl⟩ := List.mem_map.mp he
  simp only [Function.comp, pur_encPt]
  simp [alike, alikeAll, alike_ints]
theorem sortable_pts (xs : List Pt) : Sortable2 (purs (xs.map encPt)) := .inl fun d hd => by
  rw [purs_map, List.map_map] at hd
  obtain ⟨x, _, rfl⟩ := List.mem_map.mp hd
  exact ⟨_, pur_encPt x⟩
/-- the sorted points -/
def srtPt (xs : List Pt) : List Pt := xs.mergeSort (dataLe false fun x => pur (encPt x))
theorem srtD_pts (xs : List Pt) : srtD (xs.map encPt) = (srtPt xs).map encPt := by
  unfold srtD srtPt
  rw [List.map_mergeSort (r := dataLe false fun x => pur (encPt x)) (s := dataLe false pur) (f := encPt) (fun _ _ _ _ => rfl)]
theorem srtD_pts_perm {xs ys : List Pt} (h : xs.Perm ys) : srtD (xs.map encPt) = srtD (ys.map encPt) := srtD_perm (h.map _) (plains_pts _) (alike_pts _)
theorem encPt_inj {x y : Pt} (h : encPt x = encPt y) : x = y := by
  unfold encPt at h
  injection h with h
  have h1 := (List.cons.inj h).1
  have h2 := (List.cons.inj (List.cons.inj h).2).1
  exact Prod.ext (ptW_inj (DV.str.inj h1)) (encP_inj h2)
/-! the ties of a term's points -/
def kid (p : Place) (k : Nat) : Place := p ++ [(k : Int)]
def kids (p : Place) (n : Nat) : List Place := (List.range n).map (kid p)
def edgesP (w : Wd) (n : Nat) (p : Place) : List (Pt × Pt) :=
  if w = .lend then [((true, p), (true, kid p 0)), ((true, p), (false, p))]
  else if w = .both ∨ w = .look then (kids p n).map (fun q => ((true, p), (true, q))) ++ (kids p n).map (fun q => ((false, q), (false, p)))
  else if n = 0 then [((true, p), (false, p))]
  else [((true, p), (true, kid p 0)), ((false, kid p (n - 1)), (false, p))] ++ ((kids p n).zip ((kids p n).drop 1)).map (fun q => ((false, q.1), (true, q.2)))
def edgeK (w : Wd) (n : Nat) (p : Place) (k : Nat) : List (Pt × Pt) :=
  (if k = 0 ∨ w ≠ .row then [((true, p), (true, kid p k))] else [((false, kid p (k - 1)), (true, kid p k))]) ++
  (if (w = .both ∨ w = .look) ∨ (w = .row ∧ k = n - 1) then [((false, kid p k), (false, p))] else [])
def edgesL (w : Wd) (n : Nat) (p : Place) : List (Pt × Pt) :=
  (if w.leaf = true ∨ w = .lend ∨ (w = .row ∧ n = 0) then [((true, p), (false, p))] else []) ++ (List.range n).flatMap (edgeK w n p)
/-- the same for codes: 0 in p, 1 out p, 2k+2 in kid k, 2k+3 out kid k -/
def ptOf (p : Place) (c : Nat) : Pt := if c = 0 then (true, p) else if c = 1 then (false, p) else (c % 2 == 0, kid p ((c - 2) / 2))
def codeP (w : Wd) (n : Nat) : List (Nat × Nat) :=
  if w = .lend then [(0, 2), (0, 1)]
  else if w = .both ∨ w = .look then (List.range n).map (fun k => (0, 2 * k + 2)) ++ (List.range n).map (fun k => (2 * k + 3, 1))
  else if n = 0 then [(0, 1)]
  else [(0, 2), (2 * (n - 1) + 3, 1)] ++ ((List.range n).zip ((List.range n).drop 1)).map (fun q => (2 * q.1 + 3, 2 * q.2 + 2))
def codeK (w : Wd) (n k : Nat) : List (Nat × Nat) :=
  (if k = 0 ∨ w ≠ .row then [(0, 2 * k + 2)] else [(2 * (k - 1) + 3, 2 * k + 2)]) ++ (if (w = .both ∨ w = .look) ∨ (w = .row ∧ k = n - 1) then [(2 * k + 3, 1)] else [])
def codeL (w : Wd) (n : Nat) : List (Nat × Nat) := (if w.leaf = true ∨ w = .lend ∨ (w = .row ∧ n = 0) then [(0, 1)] else []) ++ (List.range n).flatMap (codeK w n)
def okN (w : Wd) (n : Nat) : Bool := partsN w n
theorem codes_perm : ∀ (w : Wd) (n : Nat), partsN w n = true → (codeP w n).Perm (codeL w n) := by
  intro w n h
  have hn : n ≤ 6 := by cases w <;> simp [partsN] at h <;> omega
  have : n = 0 ∨ n = 1 ∨ n = 2 ∨ n = 3 ∨ n = 4 ∨ n = 5 ∨ n = 6 := by omega
  rcases this with rfl | rfl | rfl | rfl | rfl | rfl | rfl <;> cases w <;> first | (exact absurd h (by decide)) | decide
def edOf (p : Place) (c : Nat × Nat) : Pt × Pt := (ptOf p c.1, ptOf p c.2)
theorem ptOf_0 (p : Place) : ptOf p 0 = (true, p) := rfl
theorem ptOf_1 (p : Place) : ptOf p 1 = (false, p) := rfl
theorem ptOf_in (p : Place) (k : Nat) : ptOf p (2 * k + 2) = (true, kid p k) := by
  unfold ptOf
  rw [if_neg (by omega), if_neg (by omega)]
  have e1 : (2 * k + 2) % 2 = 0 := by omega
  have e2 : (2 * k + 2 - 2) / 2 = k := by omega
  rw [e1, e2]; rfl
theorem ptOf_out (p : Place) (k : Nat) : ptOf p (2 * k + 3) = (false, kid p k) := by
  unfold ptOf
  rw [if_neg (by omega), if_neg (by omega)]
  have e1 : (2 * k + 3) % 2 = 1 := by omega
  have e2 : (2 * k + 3 - 2) / 2 = k := by omega
  rw [e1, e2]; rfl
theorem edgesP_code (w : Wd) (n : Nat) (p : Place) : edgesP w n p = (codeP w n).map (edOf p) := by
  have h2 : ptOf p 2 = (true, kid p 0) := ptOf_in p 0
  unfold edgesP codeP kids
  split
  · simp [edOf, ptOf_0, ptOf_1, h2]
  · split
    · simp [edOf, ptOf_0, ptOf_1, ptOf_in, ptOf_out, Function.comp_def]
    · split
      · simp [edOf, ptOf_0, ptOf_1]
      · simp [edOf, ptOf_0, ptOf_1, ptOf_in, ptOf_out, h2, Function.comp_def, ← List.map_drop, List.zip_map']
        rw [List.zip_map, List.map_map]
        rfl
theorem edgeK_code (w : Wd) (n k : Nat) (p : Place) : edgeK w n p k = (codeK w n k).map (edOf p) := by
  unfold edgeK codeK
  split <;> split <;> simp [edOf, ptOf_0, ptOf_1, ptOf_in, ptOf_out]
theorem edgesL_code (w : Wd) (n : Nat) (p : Place) : edgesL w n p = (codeL w n).map (edOf p) := by
  unfold edgesL codeL
  rw [List.map_append, List.map_flatMap]
  congr 1
  · split <;> simp [edOf, ptOf_0, ptOf_1]
  · congr 1; funext k; exact edgeK_code w n k p
theorem edges_perm {w : Wd} {n : Nat} (h : partsN w n = true) (p : Place) : (edgesP w n p).Perm (edgesL w n p) := by
  rw [edgesP_code, edgesL_code]; exact (codes_perm w n h).map _
/-! what is lent where -/
def lendAt (t : Tm) (p : Place) : Option (Int × Place) := match atP t p with | some u => if u.w = .lend then (u.ns.head?).map (fun h => (h, kid p 0)) else none | none => none
def lentM (t : Tm) : List (Int × Place) := (placesIn t []).filterMap (lendAt t)
def lentD (l : List (Int × Place)) : List (Key × DV) := l.foldl (fun acc q => putKD acc (.inl q.1) (encP q.2)) []
theorem lookK_nil (k : Key) : lookK [] k = none := rfl
theorem lookK_cons (p : Key × DV) (r : List (Key × DV)) (k : Key) : lookK (p :: r) k = if p.1 = k then some p.2 else lookK r k := by
  unfold lookK; rw [List.find?_cons]; by_cases h : p.1 = k <;> simp [h]
theorem lookK_append (a b : List (Key × DV)) (k : Key) : lookK (a ++ b) k = (lookK a k).or (lookK b k) := by
  induction a with
  | nil => rfl
  | cons p r ih => rw [List.cons_append, lookK_cons, lookK_cons, ih]; split <;> rfl
theorem lookK_any (kvs : List (Key × DV)) (k : Key) : (kvs.any fun kv => decide (kv.1 = k)) = (lookK kvs k).isSome := by
  induction kvs with
  | nil => rfl
  | cons p r ih => rw [List.any_cons, lookK_cons, ih]; by_cases h : p.1 = k <;> simp [h]
theorem lookK_put (kvs : List (Key × DV)) (k k' : Key) (d : DV) : lookK (putKD kvs k d) k' = if k = k' then some d else lookK kvs k' := by
  unfold putKD
  split
  · rename_i h
    induction kvs with
    | nil => simp at h
    | cons p r ih =>
      rw [List.map_cons, lookK_cons]
      by_cases hp : p.1 = k
      · rw [if_pos hp, lookK_cons]
        simp only [hp]
        by_cases hk : k = k'
        · rw [if_pos hk, if_pos hk]
        · rw [if_neg hk, if_neg hk, if_neg hk]
          have : ∀ r : List (Key × DV), lookK (r.map fun kv => if kv.1 = k then (kv.1, d) else kv) k' = lookK r k' := by
            intro r
            induction r with
            | nil => rfl
            | cons x r ih =>
              rw [List.map_cons, lookK_cons, lookK_cons, ih]
              by_cases hx : x.1 = k
              · rw [if_pos hx]; simp only [hx]; rw [if_neg hk, if_neg hk]
              · rw [if_neg hx]
          rw [this]
      · rw [if_neg hp, lookK_cons]
        have h' : (r.any fun kv => decide (kv.1 = k)) = true := by simpa [hp] using h
        rw [ih h']
        by_cases hk : k = k'
        · rw [if_pos hk, if_neg (fun z => hp (z.trans hk.symm)), if_pos hk]
        · rw [if_neg hk, if_neg hk]
  · rename_i h
    rw [lookK_append, lookK_cons, lookK_nil]
    by_cases hk : k = k'
    · subst hk
      rw [if_pos rfl, if_pos rfl]
      rw [lookK_any] at h
      cases z : lookK kvs k with
      | none => rfl
      | some d => rw [z] at h; exact absurd rfl h
    · rw [if_neg hk, if_neg hk]; simp
theorem putKD_len (kvs : List (Key × DV)) (k : Key) (d : DV) : (putKD kvs k d).length ≤ kvs.length + 1 := by
  unfold putKD; split <;> simp
theorem lentD_snoc (l : List (Int × Place)) (q : Int × Place) : lentD (l ++ [q]) = putKD (lentD l) (.inl q.1) (encP q.2) := by
  unfold lentD; rw [List.foldl_append]; rfl
theorem list_rev_ind {α : Type} {P : List α → Prop} (h0 : P []) (h1 : ∀ l x, P l → P (l ++ [x])) (l : List α) : P l := by
  have : ∀ r : List α, P r.reverse := by
    intro r
    induction r with
    | nil => exact h0
    | cons x r ih => rw [List.reverse_cons]; exact h1 _ _ ih
  have z := this l.reverse
  rwa [List.reverse_reverse] at z
theorem lentD_len (l : List (Int × Place)) : (lentD l).length ≤ l.length := by
  refine list_rev_ind (P := fun l => (lentD l).length ≤ l.length) (by simp [lentD]) (fun l x ih => ?_) l
  rw [lentD_snoc]
  have := putKD_len (lentD l) (.inl x.1) (encP x.2)
  simp; omega
theorem lent_look (l : List (Int × Place)) : ∀ h ∈ l.map (·.1), ∃ q, (h, q) ∈ l ∧ lookK (lentD l) (.inl h) = some (encP q) := by
  refine list_rev_ind (P := fun l => ∀ h ∈ l.map (·.1), ∃ q, (h, q) ∈ l ∧ lookK (lentD l) (.inl h) = some (encP q)) (fun h hh => by cases hh) (fun l x ih h hh => ?_) l
  rw [lentD_snoc, lookK_put]
  by_cases e : x.1 = h
  · subst e
    exact ⟨x.2, by simp, by rw [if_pos rfl]⟩
  · rw [if_neg (fun z => e (Sum.inl.inj z))]
    have hm : h ∈ l.map (·.1) := by
      rw [List.map_append, List.mem_append] at hh
      rcases hh with hh | hh
      · exact hh
      · simp at hh; exact absurd hh.symm e
    obtain ⟨q, h1, h2⟩ := ih h hm
    exact ⟨q, by simp [h1], h2⟩
mutual
theorem waits_lend : ∀ (t : Tm) (ar : List Int), Ok t → waits t ar = true → ∀ (p : Place) (u : Tm), atP t p = some u → u.w = .wait → ∀ h ∈ u.ns, h ∈ ar ∨ ∃ q v, atP t q = some v ∧ v.w = .lend ∧ h ∈ v.ns
  | .mk w ns ps, ar, ok, hw, p, u, hu, hwt, h, hh => by
    rw [waits] at hw
    cases p with
    | nil =>
      rw [atP_nil] at hu
      cases hu
      have e : w = .wait := hwt
      rw [if_pos e, List.all_eq_true] at hw
      exact .inl (of_decide_eq_true (hw h hh))
    | cons k p =>
      obtain ⟨hk, v, e1, e2⟩ := atP_cons hu
      by_cases e : w = .wait
      · have e3 : ps = [] := ok.2.1 (by rw [e]; rfl)
        subst e3
        simp [Tm.ps] at e1
      · rw [if_neg e] at hw
        rcases waitsL_lend (decide (w = .row)) ps _ ok.2.2 hw k.toNat v e1 p u e2 hwt h hh with z | ⟨k', v', q, x, z1, z2, z3, z4⟩
        · by_cases el : w = .look
          · rw [if_pos el] at z; cases z
          · rw [if_neg el] at z; exact .inl z
        · exact .inr ⟨(k' : Int) :: q, x, by rw [atP_nat (u := x) z1]; exact z2, z3, z4⟩
theorem waitsL_lend : ∀ (b : Bool) (ts : List Tm) (ar : List Int), OkL ts → waitsL b ts ar = true → ∀ (k : Nat) (v : Tm), ts[k]? = some v → ∀ (p : Place) (u : Tm), atP v p = some u → u.w = .wait → ∀ h ∈ u.ns, h ∈ ar ∨ ∃ (k' : Nat) (v' : Tm) (q : Place) (x : Tm), ts[k']? = some v' ∧ atP v' q = some x ∧ x.w = .lend ∧ h ∈ x.ns
  | b, [], ar, ok, hw, k, v, e, p, u, hu, hwt, h, hh => by simp at e
  | b, t :: r, ar, ok, hw, k, v, e, p, u, hu, hwt, h, hh => by
    rw [waitsL, Bool.and_eq_true] at hw
    cases k with
    | zero =>
      simp at e
      subst e
      rcases waits_lend t ar ok.1 hw.1 p u hu hwt h hh with z | ⟨q, x, z1, z2, z3⟩
      · exact .inl z
      · exact .inr ⟨0, t, q, x, rfl, z1, z2, z3⟩
    | succ k =>
      simp at e
      rcases waitsL_lend b r _ ok.2 hw.2 k v e p u hu hwt h hh with z | ⟨k', v', q, x, z1, z2, z3, z4⟩
      · by_cases c : (b && decide (t.w = .lend)) = true
        · rw [if_pos c, List.mem_append] at z
          rcases z with z | z
          · exact .inl z
          · rw [Bool.and_eq_true, decide_eq_true_eq] at c
            exact .inr ⟨0, t, [], t, rfl, atP_nil t, c.2, z⟩
        · rw [if_neg c] at z; exact .inl z
      · exact .inr ⟨k' + 1, v', q, x, by simpa using z1, z2, z3, z4⟩
end
theorem lend_shape {c : Int} {v : Tm} (m : Made c v) (h : v.w = .lend) : ∃ x u, v = .mk .lend [x] [u] := by
  obtain ⟨w, ns, ps⟩ := v
  cases (show w = .lend from h)
  obtain ⟨h1, h2, _⟩ := m
  obtain ⟨x, rfl⟩ := List.length_eq_one_iff.mp (numsOk_len h1)
  have : ps.length = 1 := by simpa [partsN] using h2
  obtain ⟨u, rfl⟩ := List.length_eq_one_iff.mp this
  exact ⟨x, u, rfl⟩
theorem atP_app {t u v : Tm} : ∀ {p q : Place}, atP t p = some u → atP u q = some v → atP t (p ++ q) = some v := by
  intro p
  induction p generalizing t with
  | nil => intro q h1 h2; rw [atP_nil] at h1; cases h1; exact h2
  | cons k p ih =>
    intro q h1 h2
    obtain ⟨hk, y, e1, e2⟩ := atP_cons h1
    rw [List.cons_append, atP, if_pos hk, e1]
    exact ih e2 h2
theorem kid_at {t u v : Tm} {p : Place} {k : Nat} (h : atP t p = some u) (hk : u.ps[k]? = some v) : atP t (kid p k) = some v :=
  atP_app h (by rw [atP_nat (u := v) hk]; exact atP_nil v)
theorem lentM_mem {c : Int} {t : Tm} (m : Made c t) {h : Int} {q : Place} (hm : (h, q) ∈ lentM t) : ∃ p u, atP t p = some (.mk .lend [h] [u]) ∧ q = kid p 0 ∧ q ∈ placesIn t [] := by
  obtain ⟨p, _, hp2⟩ := List.mem_filterMap.mp hm
  unfold lendAt at hp2
  split at hp2
  · rename_i v hv
    split at hp2
    · rename_i hw
      obtain ⟨x, u, rfl⟩ := lend_shape ((atP_all hv).2.1 c m) hw
      simp [Tm.ns] at hp2
      obtain ⟨rfl, rfl⟩ := hp2
      exact ⟨p, u, hv, rfl, mem_places0.mpr ⟨u, kid_at hv rfl⟩⟩
    · cases hp2
  · cases hp2
theorem wait_lent {c : Int} {t u : Tm} (bk : Bk c t) {p : Place} (hu : atP t p = some u) (hw : u.w = .wait) {h : Int} (hh : h ∈ u.ns) : h ∈ (lentM t).map (·.1) := by
  rcases waits_lend t [] bk.made.ok bk.waits p u hu hw h hh with z | ⟨q, v, z1, z2, z3⟩
  · cases z
  · obtain ⟨x, y, rfl⟩ := lend_shape ((atP_all z1).2.1 c bk.made) z2
    have : h = x := by simpa [Tm.ns] using z3
    subst this
    refine List.mem_map.mpr ⟨(h, kid q 0), List.mem_filterMap.mpr ⟨q, mem_places0.mpr ⟨_, z1⟩, ?_⟩, rfl⟩
    unfold lendAt
    rw [z1]
    simp [Tm.w, Tm.ns]
theorem lentM_len (t : Tm) : (lentM t).length ≤ size t := by
  have := List.length_filterMap_le (lendAt t) (placesIn t [])
  rw [placesIn_length] at this
  exact this
end Sw

/-! A dict of points to lists of points, as edges are put in. -/
namespace Sw
open PySem PySem.Spec PyProof.Rows L2 PySem.W
def outs (es : List (Pt × Pt)) (p : Pt) : List Pt := (es.filter fun e => decide (e.1 = p)).map (·.2)
theorem outs_snoc (es : List (Pt × Pt)) (p x q : Pt) : outs (es ++ [(p, x)]) q = if p = q then outs es q ++ [x] else outs es q := by
  unfold outs
  rw [List.filter_append, List.map_append]
  by_cases h : p = q
  · subst h; simp
  · simp [h]
structure Tied (st0 st : Sto) (d : Addr) (m : List (Pt × Addr)) (es : List (Pt × Pt)) : Prop where
  dic : st d = some (.dic (dmap ptEnc DV.ref m))
  ka : (m.map (·.1)).Nodup
  aa : (m.map (·.2)).Nodup
  na : ∀ x ∈ m, x.2 ≠ d
  at' : ∀ x ∈ m, st x.2 = some (.lst ((outs es x.1).map encPt))
  all : ∀ e ∈ es, e.1 ∈ m.map (·.1)
  fresh : ∀ x ∈ m, st0 x.2 = none
  keep : ∀ e o, st0 e = some o → st e = some o
  nd : st0 d = none
theorem map_inj_mem {α β : Type} (f : α → β) : ∀ {m : List α}, (m.map f).Nodup → ∀ y ∈ m, ∀ z ∈ m, f y = f z → y = z
  | [], _, y, hy, _, _, _ => by cases hy
  | w :: r, hn, y, hy, z, hz, e => by
    rw [List.map_cons, List.nodup_cons] at hn
    rcases List.mem_cons.mp hy with h1 | h1
    · rcases List.mem_cons.mp hz with h2 | h2
      · rw [h1, h2]
      · exact absurd (List.mem_map.mpr ⟨z, h2, by rw [← e, h1]⟩) hn.1
    · rcases List.mem_cons.mp hz with h2 | h2
      · exact absurd (List.mem_map.mpr ⟨y, h1, by rw [e, h2]⟩) hn.1
      · exact map_inj_mem f hn.2 y h1 z h2 e
theorem assoc_mem {α β : Type} [DecidableEq α] {m : List (α × β)} {x : α} {v : β} (h : assoc m x = some v) : (x, v) ∈ m := by
  unfold assoc at h
  obtain ⟨p, h1, rfl⟩ := Option.map_eq_some_iff.mp h
  have h2 := List.find?_some h1
  have h3 := List.mem_of_find?_eq_some h1
  simp at h2
  subst h2
  exact h3
theorem assoc_some {α β : Type} [DecidableEq α] {m : List (α × β)} {x : α} (h : x ∈ m.map (·.1)) : ∃ v, assoc m x = some v := by
  unfold assoc
  cases z : m.find? fun p => decide (p.1 = x) with
  | none =>
    rw [List.find?_eq_none] at z
    obtain ⟨p, hp, rfl⟩ := List.mem_map.mp h
    exact absurd (z p hp) (by simp)
  | some p => exact ⟨p.2, rfl⟩
theorem assoc_none {α β : Type} [DecidableEq α] {m : List (α × β)} {x : α} (h : assoc m x = none) : x ∉ m.map (·.1) := fun z => by
  obtain ⟨v, e⟩ := assoc_some z
  rw [h] at e; cases e
theorem assoc_app {α β : Type} [DecidableEq α] {m : List (α × β)} {x : α} {v : β} (h : assoc m x = none) : assoc (m ++ [(x, v)]) x = some v := by
  unfold assoc at h ⊢
  rw [Option.map_eq_none_iff] at h
  rw [List.find?_append, h]
  simp
section
variable {st0 st : Sto} {d : Addr} {m : List (Pt × Addr)} {es : List (Pt × Pt)}
/-- a point without edges gets a list -/
theorem Tied.new (T : Tied st0 st d m es) {p : Pt} {a : Addr} (hp : assoc m p = none) (ha : st a = none) : Tied st0 (put (put st a (.lst [])) d (.dic (dmap ptEnc DV.ref (m ++ [(p, a)])))) d (m ++ [(p, a)]) es := by
  have nda : d ≠ a := ne_some T.dic ha
  have hno := assoc_none hp
  have hout : outs es p = [] := by
    unfold outs
    rw [List.filter_eq_nil_iff.mpr (fun e he => ?_)]; rfl
    intro z
    have : e.1 = p := by simpa using z
    exact hno (this ▸ T.all e he)
  refine ⟨put_same, ?_, ?_, fun x hx => ?_, fun x hx => ?_, fun e he => ?_, fun x hx => ?_, fun e o he => ?_, T.nd⟩
  · rw [List.map_append, List.nodup_append]
    exact ⟨T.ka, by simp, fun a1 h1 b1 h2 => by simp at h2; subst h2; intro e; subst e; exact hno h1⟩
  · rw [List.map_append, List.nodup_append]
    refine ⟨T.aa, by simp, fun a1 h1 b1 h2 => ?_⟩
    simp at h2; subst h2
    obtain ⟨x, hx, rfl⟩ := List.mem_map.mp h1
    exact ne_some (T.at' x hx) ha
  · rcases List.mem_append.mp hx with hx | hx
    · exact T.na x hx
    · simp at hx; subst hx; exact Ne.symm nda
  · rcases List.mem_append.mp hx with hx | hx
    · rw [put_ne (T.na x hx), put_ne (ne_some (T.at' x hx) ha)]; exact T.at' x hx
    · simp at hx; subst hx; rw [put_ne (Ne.symm nda), put_same, hout]; rfl
  · rw [List.map_append, List.mem_append]; exact .inl (T.all e he)
  · rcases List.mem_append.mp hx with hx | hx
    · exact T.fresh x hx
    · simp at hx; subst hx
      show st0 a = none
      cases z : st0 a with
      | none => rfl
      | some o => rw [T.keep a o z] at ha; cases ha
  · have n1 : e ≠ d := by rintro rfl; rw [T.nd] at he; cases he
    have n2 : e ≠ a := ne_some (T.keep e o he) ha
    rw [put_ne n1, put_ne n2]; exact T.keep e o he
/-- something is made beside it -/
theorem Tied.beside (T : Tied st0 st d m es) {a : Addr} {o : Ob} (ha : st a = none) : Tied st0 (put st a o) d m es :=
  ⟨new_some T.dic ha, T.ka, T.aa, T.na, fun x hx => new_some (T.at' x hx) ha, T.all, T.fresh, fun e u he => new_some (T.keep e u he) ha, T.nd⟩
/-- an edge more -/
theorem Tied.add (T : Tied st0 st d m es) {p x : Pt} {a : Addr} (hp : assoc m p = some a) : Tied st0 (put st a (.lst ((outs es p).map encPt ++ [encPt x]))) d m (es ++ [(p, x)]) := by
  have hm := assoc_mem hp
  have nd : d ≠ a := Ne.symm (T.na _ hm)
  refine ⟨by rw [put_ne nd]; exact T.dic, T.ka, T.aa, T.na, fun y hy => ?_, fun e he => ?_, T.fresh, fun e o he => ?_, T.nd⟩
  · rw [outs_snoc]
    by_cases h : y.2 = a
    · have : y = (p, a) := by
        exact map_inj_mem _ T.aa y hy _ hm h
      subst this
      rw [put_same, if_pos rfl]; simp
    · rw [put_ne h]
      have hne : p ≠ y.1 := by
        rintro rfl
        have e := map_inj_mem _ T.ka y hy _ hm rfl
        rw [e] at h; exact h rfl
      rw [if_neg hne]; exact T.at' y hy
  · rcases List.mem_append.mp he with he | he
    · exact T.all e he
    · simp at he; subst he; exact List.mem_map.mpr ⟨_, hm, rfl⟩
  · have n : e ≠ a := by
      rintro rfl
      have := T.fresh _ hm
      simp only at this
      rw [this] at he; cases he
    rw [put_ne n]; exact T.keep e o he
theorem Tied.push (T : Tied st0 st d m es) {r : Addr} {o : Ob} (hr : st r = none) : Tied (put st0 r o) (put st r o) d m es := by
  have hd : d ≠ r := ne_some T.dic hr
  refine ⟨new_some T.dic hr, T.ka, T.aa, T.na, fun x hx => new_some (T.at' x hx) hr, T.all, fun x hx => ?_, fun e u he => ?_, by rw [put_ne hd]; exact T.nd⟩
  · rw [put_ne (ne_some (T.at' x hx) hr)]; exact T.fresh x hx
  · by_cases h : e = r
    · subst h; rw [put_same] at he ⊢; exact he
    · rw [put_ne h] at he ⊢; exact T.keep e u he
theorem Tied.pop {r : Addr} {o o' : Ob} (T : Tied (put st0 r o) st d m es) (h0 : st0 r = none) : Tied st0 (put st r o') d m es := by
  have hd : d ≠ r := by rintro rfl; have := T.nd; rw [put_same] at this; cases this
  have hx : ∀ x ∈ m, x.2 ≠ r := fun x hx e => by have := T.fresh x hx; rw [e, put_same] at this; cases this
  refine ⟨by rw [put_ne hd]; exact T.dic, T.ka, T.aa, T.na, fun x h => by rw [put_ne (hx x h)]; exact T.at' x h, T.all, fun x h => ?_, fun e u he => ?_, ?_⟩
  · have := T.fresh x h; rw [put_ne (hx x h)] at this; exact this
  · have n : e ≠ r := by rintro rfl; rw [h0] at he; cases he
    rw [put_ne n]; exact T.keep e u (by rw [put_ne n]; exact he)
  · have := T.nd; rw [put_ne hd] at this; exact this
def del (st : Sto) (d : Addr) : Sto := fun e => if e = d then none else st e
theorem del_same {st : Sto} {d : Addr} : del st d d = none := by simp [del]
theorem del_ne {st : Sto} {d e : Addr} (h : e ≠ d) : del st d e = st e := by simp [del, h]
theorem Tied.start {st : Sto} {d : Addr} (h : st d = some (.dic [])) : Tied (del st d) st d [] [] :=
  ⟨h, List.nodup_nil, List.nodup_nil, (fun x hx => nomatch hx), (fun x hx => nomatch hx), (fun e he => nomatch he), (fun x hx => nomatch hx), fun e o he => by
    by_cases n : e = d
    · subst n; rw [del_same] at he; cases he
    · rw [del_ne n] at he; exact he, del_same⟩
theorem Tied.forget {r : Addr} {o : Ob} (T : Tied (put st0 r o) st d m es) (h0 : st0 r = none) : Tied st0 st d m es := by
  have hx : ∀ x ∈ m, x.2 ≠ r := fun x hx e => by have := T.fresh x hx; rw [e, put_same] at this; cases this
  have hd : d ≠ r := by rintro rfl; have := T.nd; rw [put_same] at this; cases this
  refine ⟨T.dic, T.ka, T.aa, T.na, T.at', T.all, fun x h => ?_, fun e u he => ?_, ?_⟩
  · have := T.fresh x h; rw [put_ne (hx x h)] at this; exact this
  · have n : e ≠ r := by rintro rfl; rw [h0] at he; cases he
    exact T.keep e u (by rw [put_ne n]; exact he)
  · have := T.nd; rw [put_ne hd] at this; exact this
theorem Tied.drop (T : Tied st0 st d m es) {a : Addr} {o o' : Ob} (ha : st0 a = some o) : Tied (del st0 a) (put st a o') d m es := by
  have hd : d ≠ a := by rintro rfl; rw [T.nd] at ha; cases ha
  have hx : ∀ x ∈ m, x.2 ≠ a := fun x hx e => by have := T.fresh x hx; rw [e, ha] at this; cases this
  refine ⟨by rw [put_ne hd]; exact T.dic, T.ka, T.aa, T.na, fun x h => by rw [put_ne (hx x h)]; exact T.at' x h, T.all, fun x h => by rw [del_ne (hx x h)]; exact T.fresh x h, fun e u he => ?_, by rw [del_ne hd]; exact T.nd⟩
  by_cases n : e = a
  · subst n; rw [del_same] at he; cases he
  · rw [del_ne n] at he; rw [put_ne n]; exact T.keep e u he
/-- setdefault(p, []) -/
theorem Tied.setd (T : Tied st0 st d m es) {p : Pt} {a : Addr} (ha : st a = none) {Q : DV → Sto → Prop} (hq : ∀ m' b st', Tied st0 st' d m' es → assoc m' p = some b → (∀ k, k ∈ m'.map (·.1) ↔ k ∈ m.map (·.1) ∨ k = p) → m'.length ≤ m.length + 1 → Q (.ref b) st') :
    nsdO d (dmap ptEnc DV.ref m) (lookD (dmap ptEnc DV.ref m) (ptEnc.key p)) (encPt p) (.ref a) (put st a (.lst [])) Q := by
  rw [lookD_dmap]
  cases z : assoc m p with
  | some b =>
    refine hq m b _ (T.beside ha) z (fun k => ⟨.inl, fun h => ?_⟩) (Nat.le_succ _)
    rcases h with h | rfl
    · exact h
    · exact List.mem_map.mpr ⟨_, assoc_mem z, rfl⟩
  | none =>
    have e : dmap ptEnc DV.ref m ++ [(encPt p, DV.ref a)] = dmap ptEnc DV.ref (m ++ [(p, a)]) := by unfold dmap; rw [List.map_append]; rfl
    show Q (.ref a) (put (put st a (.lst [])) d (.dic (dmap ptEnc DV.ref m ++ [(encPt p, DV.ref a)])))
    rw [e]
    exact hq _ a _ (T.new z ha) (assoc_app z) (fun k => by simp [or_comm]) (by simp)
end
theorem keyT_pt (x : Pt) : keyT (encPt x) = some (ptEnc.key x) := ptEnc.isT x
def sortL (x : Option (List DV)) (st : Sto) (Q : DV → Sto → Prop) : Prop := match x with
  | some xs => (plains xs = true ∧ AllAlike (purs xs) ∧ Sortable2 (purs xs) ∧ deeps xs ≤ 60) ∧ ∀ p, st p = none → Q (.ref p) (put st p (.lst (srtD xs)))
  | none => False
theorem sortD_r {a : Addr} {st : Sto} {Q : DV → Sto → Prop} : sortD [.ref a] st Q = sortL (lstAt st a) st Q := rfl
theorem sortL_s {xs : List DV} {st : Sto} {Q : DV → Sto → Prop} : sortL (some xs) st Q = ((plains xs = true ∧ AllAlike (purs xs) ∧ Sortable2 (purs xs) ∧ deeps xs ≤ 60) ∧ ∀ p, st p = none → Q (.ref p) (put st p (.lst (srtD xs)))) := rfl
/-! ### a, b = x, y -/
def parV (i j : Nat) (ds : List DV) (D : DEnds) (ρ : Rho) (st : Sto) : Prop := match ds with | [d, e] => D.nx ((ρ.set i (some d)).set j (some e)) st | _ => False
def sPar (i j : Nat) (ms : MA) : MS := fun W D ρ st => ms W ρ st fun ds st1 => parV i j ds D ρ st1
theorem ds_par {X : Cx} {E : XK} {a b : Expr} {ms : MA} (i j : Nat) {x y : Str} {px py pt pt2 pos : Pos} {kt k2 : Nat} (hN : X.N.Nodup) (ha : DA X E [a, b] ms) (hc : X.calm = true := by rfl) (hi : X.N[i]? = some x := by rfl) (hj : X.N[j]? = some y := by rfl) (hij : i ≠ j := by decide)
    (hx : X.env.scope.names.lookup x = some .local := by rfl) (hy : X.env.scope.names.lookup y = some .local := by rfl) (hw : swappedStores [.Tuple [.Name x px, .Name y py] kt pt] (.Tuple [a, b] k2 pt2) X.env = pure (some [x, y]) := by rfl)
    (hs : swapsWithSole [.Tuple [.Name x px, .Name y py] kt pt] (.Tuple [a, b] k2 pt2) pos.line X.env = pure false := by rfl) : DS X E (.Assign [.Tuple [.Name x px, .Name y py] kt pt] (.Tuple [a, b] k2 pt2) pos) (sPar i j ms) := by
  obtain ⟨t, p, q⟩ := ha
  refine ⟨_, ps_par hc hN hi hj hij hx hy p hw hs, fun W ρ σ st H Dd D S h R => ?_⟩
  refine q W ρ σ st H _ _ S h fun ds st1 vs H1 h1 r1 g1 s1 => ?_
  unfold parV at h1
  split at h1
  · cases r1 with
    | cons r1 rs =>
      cases rs with
      | cons r2 rs =>
        cases rs
        exact ⟨_, _, rfl, R.nx _ _ _ _ h1 (((S.step g1 s1).set r1).set r2) s1⟩
  · exact h1.elim
theorem sPar_eq {i j : Nat} {ms : MA} {W : XD} {D : DEnds} {ρ : Rho} {st : Sto} : sPar i j ms W D ρ st = ms W ρ st fun ds st1 => parV i j ds D ρ st1 := rfl
theorem parV_2 {i j : Nat} {d e : DV} {D : DEnds} {ρ : Rho} {st : Sto} : parV i j [d, e] D ρ st = D.nx ((ρ.set i (some d)).set j (some e)) st := rfl
end Sw

/-! sorted(dict by tuple keys), xs[::-1], (x,) * n. -/
namespace Sw
open PySem PySem.Spec PyProof.Rows L2 PySem.W PySem.SeqAt PySem.Calls
theorem kdl_raw {P : Program} {w : World} {d : Addr} {es : Array DictEntry} {ep : Nat} (lo : (d == sysModules) = false) : KdlSrc P w "dict" d d es.size (fun i v => ∃ hi : i < es.size, v = es[i].key) (fun h => h.DictRaw d es ep) where
  type := fun _ hm => hm.typeIs
  there := fun _ hm => let ⟨_, ho, _⟩ := hm; ⟨Heap.lt_size ho, Heap.lt_size ho⟩
  keep := fun _ _ hm hk => hm.at fun o e => hk d (.inl rfl) o e
  notList := by decide
  notTuple := by decide
  hint := fun _ _ _ _ hm hq => kdl_hint_dict hm.typeIs hq
  iter := fun _ _ hh hm => ⟨_, _, (fun _ _ hq => wpAny_pyIter_dict_raw lo hm hq), Walks.rawKeys hh _ d (let ⟨_, ho, _⟩ := hm; Nat.ne_of_lt (Heap.lt_size ho)) es ep, ⟨⟨_, Heap.get?_push_size _ rfl, rfl, rfl⟩, hm.at fun o e => Heap.get?_push_of_some _ e⟩⟩
theorem collect_dic {P : Program} {w : World} {A : Around} {E : Value → Shared → Prop} {s : Shared} {T : String} {r d : Addr} {n : Nat} {Pv : Nat → Value → Prop} {OK : Heap → Prop} {R : List Value → Shared → Prop} (K : KdlSrc P w T r d n Pv OK) (hh : A.handled = none) (hok : OK s.heap) (hn : n ≤ sizeLine)
    (h : ∀ (g : Heap) (tk : Nat) (acc : Array Value), (∀ b o, s.heap.get? b = some o → g.get? b = some o) → s.heap.objs.size < g.objs.size → ItemsOf Pv acc n → R acc.toList { s with heap := g, toks := tk }) : wpAny (model P w) A (collect (.ref r)) R E s := by
  have lt2 := K.there _ hok
  let z := s.heap.objs.size
  unfold collect
  refine wpAny_bind (wpAny_runValue (codeAny_builtin F.entry_proto_collect ?_)); rw [Around.under_plainId F.plain_proto_collect _]
  refine (show wpAny _ A.in1 (newList [] >>= fun l => again (.builtin "list.__iadd__" ⟨[l, .ref r], []⟩)) _ _ s from wpAny_bind (wpAny_newObj_type ?_))
  refine wpAny_pure ⟨plainId_quiet F.plain_list_iadd _, codeAny_builtin F.entry_list_iadd ?_⟩; rw [Around.under_plainId F.plain_list_iadd _]
  have key := kdl_extend (A := A) (s := { s with heap := s.heap.push { cls := .type "list", data := .seq ([] : List Value).toArray } })
    (R := fun (q : Result) (s1 : Shared) => ∃ (g : Heap) (tk : Nat) (acc : Array Value) (c : Nat), q = .ok (.ret (.ref z)) ∧ s1 = { s with heap := g, toks := tk } ∧ (∀ b o, s.heap.get? b = some o → g.get? b = some o) ∧ g.get? z = some { cls := .type "list", dict := none, data := .seq acc c, slots := #[] } ∧ ItemsOf Pv acc n)
    K hh (K.keep _ _ hok fun b _ o e => Heap.get?_push_of_some _ e) z (Nat.ne_of_gt lt2.1) (Nat.ne_of_gt lt2.2) (.ref z) 0 (Heap.get?_push_size _ rfl)
    (fun g tk acc c kp at1 it => ⟨g, tk, acc, c, rfl, rfl, fun b o e => kp b o (Nat.ne_of_lt (Heap.lt_size e)) (Heap.get?_push_of_some _ e), at1, it⟩) hn
  refine wpAny_mono key (fun fin s1 x => ?_) fun e s1 x => (by obtain ⟨_, _, _, _, e1, _⟩ := x; cases e1)
  cases fin with
  | done f =>
    obtain ⟨g, tk, acc, c, e1, rfl, kp, at1, it⟩ := x
    cases e1
    refine (show wpAny _ A (load z >>= _) _ _ _ from wpAny_bind (wpAny_load at1 ?_)); exact wpAny_pure (h g tk acc kp (Heap.lt_size at1) it)
  | again c1 =>
    refine ⟨x.1, codeAny_mono x.2 fun q s2 y => ?_⟩
    obtain ⟨g, tk, acc, c, rfl, rfl, kp, at1, it⟩ := y
    refine (show wpAny _ A (load z >>= _) _ _ _ from wpAny_bind (wpAny_load at1 ?_)); exact wpAny_pure (h g tk acc kp (Heap.lt_size at1) it)
def keyVs (ks : List (NestedKey × Addr × V)) : List V := ks.map fun q => V.ref q.2.1
section
variable {X : Cx} {E : XK} {e : Expr} {me : ME} {pos : Pos}
def rSortDic (P : Program) (w : World) (K : PySem.W.Frag) : List V → Hp → VK → Prop := fun vs H Q => ∃ (a : Addr) (kvs : List (DV × DV)) (ks : List (NestedKey × Addr × V)) (ds : List PyData), vs = [V.ref a] ∧ DicAt P w K H a kvs ks ∧ ks.length ≤ sizeLine ∧ DpAll K H (keyVs ks) ds ∧ AllAlike ds ∧ Sortable2 ds ∧ (∀ d ∈ ds, d.depth ≤ 60) ∧
  ∀ p, H p = none → Q (.ref p) (upd H p (.lst (srtV (keyVs ks) ds)))
theorem cr_sortDic (hc : X.calm = true) (hu : X.A.units + 65 < cLine) : CallR X (.builtin "sorted") (rSortDic X.prog X.w X.K) := by
  intro pins s σ H vs us Q I r h
  obtain ⟨a, kvs, ks, ds, rfl, da, hz, hd, hal, hk, hdp, q⟩ := h
  rw [Vals.ref1 r]
  obtain ⟨xs, p1, p2⟩ := dic_heap I da
  obtain ⟨es, ep, hraw, hsz, hent⟩ := p2.raw
  have hlx : ks.length = xs.length := paired_len p1
  refine Calls.call_function_entry kind_sorted plain_sorted entry_sorted (args_sorted1 _) ?_
  unfold Builtin.«sorted»
  refine wpAny_bind (m := checkCount "sorted" 1 1 _) (wpAny_pure ?_)
  refine wpAny_bind (collect_dic (A := X.A.in1) (kdl_raw da.sys) (I.ok.hd hc) hraw (by omega) fun h' tk acc k1 klt hacc => ?_)
  have hlen0 := hacc.1
  obtain ⟨vs, hvs⟩ : ∃ vs, acc.toList = vs := ⟨_, rfl⟩
  have hvl : vs.length = ks.length := by rw [← hvs, Array.length_toList, hlen0]; omega
  have rv : Vals (keyVs ks) vs := by
    have hg : ∀ (i : Nat) (q : NestedKey × Addr × V), ks[i]? = some q → vs[i]? = some (Value.ref q.2.1) := fun i q e => by
      have hi : i < ks.length := (List.getElem?_eq_some_iff.mp e).1
      have hi2 : i < acc.size := by omega
      have z := hacc.2 i acc[i] (Array.getElem?_eq_getElem hi2)
      obtain ⟨hi3, z⟩ := z
      obtain ⟨y, y1, y2, _⟩ := hent i hi3
      obtain ⟨x, x1, x2⟩ := paired_get2 p1 y1
      rw [e] at x1; cases x1
      rw [← hvs, Array.getElem?_toList, Array.getElem?_eq_getElem hi2, z, y2, x2.2.1]
    clear hd hal hk hdp q p1 hlx hz da hlen0 hacc
    revert hg hvl
    clear hvs
    generalize vs = vs
    induction ks generalizing vs with
    | nil => intro hl _; rw [List.length_eq_zero_iff.mp hl]; exact .nil
    | cons p r ih =>
      intro hl hg
      cases vs with
      | nil => simp at hl
      | cons v vs =>
        have e1 := hg 0 p rfl
        simp at e1
        subst e1
        exact .cons rfl (ih vs (by simpa using hl) fun i q e => by simpa using hg (i + 1) q (by simpa using e))
  rw [hvs]
  obtain ⟨e, er⟩ := dp_each (K := X.K) I hd rv
  have hlen := dp_len hd
  have hz2 : ((keyVs ks).zip ds).map (·.2) = ds := List.map_snd_zip (by omega)
  have hal' : AllAlike (((keyVs ks).zip ds).map (·.2)) := by rw [hz2]; exact hal
  have hzv : vs.length ≤ sizeLine := by omega
  refine wpAny_bind (wpAny_newList ?_ (by omega))
  have hoL : (h'.push (seqObj "list" vs.toArray 0)).get? h'.objs.size = some (seqObj "list" vs.toArray 0) := Heap.get?_push_size _ rfl
  have er' : EachIs (fun v (b : V × PyData) => ∃ as, Reads (sortingHeap (h'.push (seqObj "list" vs.toArray 0)) h'.objs.size vs) v b.2 as) vs ((keyVs ks).zip ds) := er.mono fun _ _ ⟨as, r⟩ => ⟨as, PyProof.Rows.Reads.keeps (fun b u z => sortingHeap_old (Nat.ne_of_lt (Heap.lt_size (k1 b u z))) (Heap.get?_push_of_some _ (k1 b u z))) r⟩
  refine wpAny_bind (wpAny_holding (wpAny_call_entry_kw slot_list_sort ⟨_, hoL, rfl⟩ entry_list_sort (list_sort_vals (κ := dataKind (sortingHeap (h'.push (seqObj "list" vs.toArray 0)) h'.objs.size vs) (((keyVs ks).zip ds).map (·.2))) hoL (sortsAt_any (s := { s with heap := sortingHeap (h'.push (seqObj "list" vs.toArray 0)) h'.objs.size vs, toks := tk }) (each_map (R := fun v d => ∃ as, Reads (sortingHeap (h'.push (seqObj "list" vs.toArray 0)) h'.objs.size vs) v d as) (fun b : V × PyData => b.2) er') hal' (by rw [hz2]; exact hk) (fun d hd' => ?_)) hzv ⟨_, rfl, ?_⟩) (args_list_sort _)))
  · rw [hz2] at hd'
    have := hdp d hd'
    have e1 : X.A.in1.in1.units ≤ X.A.units + 2 := by simp [Around.in1]
    omega
  · have vv := vals_each (sortVals_data (R := fun u (b : V × PyData) => RelV b.1 u) (enc := (·.2)) false e er' hal')
    obtain ⟨c, hc'⟩ := sortedHeap_at (vs := vs) (out := (sortVals (dataKind (sortingHeap (h'.push (seqObj "list" vs.toArray 0)) h'.objs.size vs) (((keyVs ks).zip ds).map (·.2))) false vs vs).toArray) hoL
    have hle := Nat.le_of_lt klt
    refine wpAny_pure ⟨_, rfl, .ref h'.objs.size, upd H h'.objs.size (.lst (srtV (keyVs ks) ds)), I.laid (t' := tk) (fun b o hb => ?_) hle ⟨?_, _, c, vv, hc'⟩, rfl, q _ (I.hok.fresh hle)⟩
    · have q := k1 b o hb
      have hlt := Heap.lt_size q
      rw [sortedHeap_old (Nat.ne_of_lt hlt) (by rw [size_push']; exact Nat.lt_succ_of_lt hlt)]
      exact Heap.get?_push_of_some _ q
    · rw [srtV, List.length_map, (List.mergeSort_perm _ _).length_eq, List.length_zip, ← hlen, Nat.min_self]; unfold keyVs; rw [List.length_map]; exact hz

theorem dvs_keys {K : PySem.W.Frag} {H : Hp} : ∀ {kvs : List (DV × DV)} {ks : List (NestedKey × Addr × V)}, Paired (KP3 K H) kvs ks → DVs K H (kvs.map (·.1)) (keyVs ks)
  | _, _, .nil => .nil
  | _, _, .cons r t => .cons r.2.2.1 (dvs_keys t)
def sortDicL (x : Option (List (DV × DV))) (st : Sto) (Q : DV → Sto → Prop) : Prop := match x with
  | some kvs => (kvs.length ≤ sizeLine ∧ plains (kvs.map (·.1)) = true ∧ AllAlike (purs (kvs.map (·.1))) ∧ Sortable2 (purs (kvs.map (·.1))) ∧ deeps (kvs.map (·.1)) ≤ 60) ∧ ∀ p, st p = none → Q (.ref p) (put st p (.lst (srtD (kvs.map (·.1)))))
  | none => False
def sortDicD : DC := fun ds st Q => match ds with | [.ref a] => sortDicL (dicAt st a) st Q | _ => False
theorem dc_sortDic : DCal X (rSortDic X.prog X.w X.K) sortDicD := by
  intro ds vs st H Qd Q g r h k
  unfold sortDicD at h
  split at h
  · rename_i a
    cases r with
    | cons r1 rs =>
      cases rs
      cases r1
      unfold sortDicL at h
      split at h
      · rename_i kvs e
        obtain ⟨ks, da⟩ := dicAt_is g e
        obtain ⟨⟨h0, h1, h2, h3, h4⟩, h5⟩ := h
        have hs := dvs_keys da.pr
        refine ⟨a, kvs, ks, purs (kvs.map (·.1)), rfl, da, by rw [← paired_len da.pr]; exact h0, Dats.dp g hs (dats_pur h1), h2, h3, purs_depths h1 h4, fun p hp => ?_⟩
        exact k _ _ _ _ (h5 p (g.free hp)) (.ref p) (g.new hp ⟨_, upd_same, (srt_dvs hs).mono (tupX_new hp)⟩) (Stp.new hp)
      · exact h.elim
  · exact h.elim
theorem sortDicD_r {a : Addr} {st : Sto} {Q : DV → Sto → Prop} : sortDicD [.ref a] st Q = sortDicL (dicAt st a) st Q := rfl
theorem sortDicL_s {kvs : List (DV × DV)} {st : Sto} {Q : DV → Sto → Prop} : sortDicL (some kvs) st Q = ((kvs.length ≤ sizeLine ∧ plains (kvs.map (·.1)) = true ∧ AllAlike (purs (kvs.map (·.1))) ∧ Sortable2 (purs (kvs.map (·.1))) ∧ deeps (kvs.map (·.1)) ≤ 60) ∧ ∀ p, st p = none → Q (.ref p) (put st p (.lst (srtD (kvs.map (·.1)))))) := rfl
/-! ### xs[::-1] -/
def revL (x : Option (List DV)) (st : Sto) (Q : DV → Sto → Prop) : Prop := match x with | some ds => ∀ p, st p = none → Q (.ref p) (put st p (.lst ds.reverse)) | none => False
def revR (d : DV) (st : Sto) (Q : DV → Sto → Prop) : Prop := match d with | .ref a => revL (lstAt st a) st Q | _ => False
def mRev (m : ME) : ME := fun W ρ st Q => m W ρ st fun d st1 => revR d st1 Q
theorem de_rev {k : Nat} {p1 p2 p3 : Pos} (h : DE X E e me) : DE X E (.Subscript e (.Slice none none (some (.UnaryOp .USub (.Constant (.int 1) k p1) p2)) p3) pos) (mRev me) := by
  obtain ⟨t, p, q⟩ := h
  refine ⟨_, pe_revL p, fun W ρ σ st H Qd Q S h k => ?_⟩
  refine q W ρ σ st H _ _ S h fun d st1 v1 H1 h1 r1 g1 s1 => ?_
  unfold revR at h1
  split at h1
  · rename_i a
    cases r1
    unfold revL at h1
    split at h1
    · rename_i ds e1
      obtain ⟨xs, hq, hs⟩ := lstAt_sq g1 e1
      exact ⟨a, xs, rfl, hq, fun p hp => k _ _ _ _ (h1 p (g1.free hp)) (.ref p) (g1.new hp ⟨_, upd_same, hs.reverse.mono (tupX_new hp)⟩) (s1.trans (Stp.new hp))⟩
    · exact h1.elim
  · exact h1.elim
theorem mRev_eq {m : ME} {W : XD} {ρ : Rho} {st : Sto} {Q : DV → Sto → Prop} : mRev m W ρ st Q = m W ρ st fun d st1 => revR d st1 Q := rfl
theorem revR_r {a : Addr} {st : Sto} {Q : DV → Sto → Prop} : revR (.ref a) st Q = revL (lstAt st a) st Q := rfl
theorem revL_s {ds : List DV} {st : Sto} {Q : DV → Sto → Prop} : revL (some ds) st Q = ∀ p, st p = none → Q (.ref p) (put st p (.lst ds.reverse)) := rfl
/-! ### (x,) * n -/
def mulTD : D2 := fun x y st Q => match x, y with
  | .tup ds, .int k => (ds ≠ [] ∧ 2 ≤ k ∧ k ≤ 1000 ∧ ds.length ≤ 1000) ∧ Q (.tup (List.replicate k.toNat ds).flatten) st
  | _, _ => False
theorem dop_mulT : DOp X (rRepT X.K) mulTD := by
  intro x y vx vy st H Qd Q g rx ry h k
  cases rx <;> cases ry <;> try exact h.elim
  rename_i a xs ds hq hs i
  obtain ⟨⟨h1, h2, h3, h4⟩, h5⟩ := h
  refine ⟨a, i, xs, rfl, rfl, hq, fun z => h1 (List.length_eq_zero_iff.mp (by rw [hs.length, z]; rfl)), h2, h3, by rw [← hs.length]; exact h4, k.tup g (hs.rep _) h5⟩
theorem mulTD_ti {ds : List DV} {i : Int} {st : Sto} {Q : DV → Sto → Prop} : mulTD (.tup ds) (.int i) st Q = ((ds ≠ [] ∧ 2 ≤ i ∧ i ≤ 1000 ∧ ds.length ≤ 1000) ∧ Q (.tup (List.replicate i.toNat ds).flatten) st) := rfl
/-! ### is True, is not True -/
def isBlD (neg : Bool) : D2 := fun x y st Q => match x, y with | .bl a, .bl b => Q (.bl (neg ^^ decide (a = b))) st | _, _ => False
theorem dop_isBl : DOp X rIsB (isBlD false) := by
  intro x y vx vy st H Qd Q g rx ry h k
  cases rx <;> cases ry <;> first | exact h.elim | exact ⟨_, _, rfl, rfl, k.at g (by simpa [isBlD] using h) (.bl _)⟩
theorem dop_notBl : DOp X rNotB (isBlD true) := by
  intro x y vx vy st H Qd Q g rx ry h k
  cases rx <;> cases ry <;> first | exact h.elim | exact ⟨_, _, rfl, rfl, k.at g (by simpa [isBlD] using h) (.bl _)⟩
theorem isBlD_b {neg a b : Bool} {st : Sto} {Q : DV → Sto → Prop} : isBlD neg (.bl a) (.bl b) st Q = Q (.bl (neg ^^ decide (a = b))) st := rfl
end
end Sw

/-! Points of any word; what is tied, to be read; roads. -/
namespace Sw
open PySem PySem.Spec PyProof.Rows L2 PySem.W
abbrev GPt := Str × Place
def encG (g : GPt) : DV := .tup [.str g.1, encP g.2]
def GOk (g : GPt) : Prop := PyData.strOk g.1 = true
def asPt (g : GPt) : Option Pt := if g.1 = ptW true then some (true, g.2) else if g.1 = ptW false then some (false, g.2) else none
def ptG (x : Pt) : GPt := (ptW x.1, x.2)
theorem encG_pt (x : Pt) : encG (ptG x) = encPt x := rfl
theorem asPt_pt (x : Pt) : asPt (ptG x) = some x := by
  obtain ⟨b, p⟩ := x
  cases b
  · unfold asPt ptG; rw [if_neg (fun z => nomatch (show false = true from ptW_inj z)), if_pos rfl]
  · unfold asPt ptG; rw [if_pos rfl]
theorem asPt_some {g : GPt} {x : Pt} (h : asPt g = some x) : g = ptG x := by
  unfold asPt at h
  split at h
  · rename_i e; cases h; exact Prod.ext e rfl
  · split at h
    · rename_i e; cases h; exact Prod.ext e rfl
    · cases h
theorem gok_pt (x : Pt) : GOk (ptG x) := by
  obtain ⟨b, p⟩ := x
  cases b
  · show PyData.strOk (ptW false) = true; decide +kernel
  · show PyData.strOk (ptW true) = true; decide +kernel
def gKey (g : GPt) : NestedKey := .tup [.text g.1, .tup (g.2.map .num)]
theorem keyT_g (g : GPt) : keyT (encG g) = some (gKey g) := by
  unfold keyT encG encP
  simp only
  rw [keyOf, keysOf, keysOf, keysOf, keyOf, keyOf, keysOf_ints]
  simp only [Option.map_some]
  rw [if_pos (by simp only [NestedKey.depth, NestedKey.depthAll, depth_nums]; decide)]
  rfl
theorem lookD_g {β : Type} (ve : β → DV) (m : List (Pt × β)) (g : GPt) : lookD (dmap ptEnc ve m) (gKey g) = ((asPt g).bind (assoc m)).map ve := by
  cases e : asPt g with
  | some x =>
    have := asPt_some e
    subst this
    exact lookD_dmap ptEnc ve m x
  | none =>
    show lookD _ _ = none
    unfold lookD
    rw [Option.map_eq_none_iff, List.find?_eq_none]
    intro p hp
    obtain ⟨⟨x, v⟩, _, rfl⟩ := List.mem_map.mp hp
    simp only [decide_eq_true_eq]
    rw [keyT_of (ptEnc.isT x)]
    intro z
    have z1 := NestedKey.tup.inj (Option.some.inj z)
    have z2 := NestedKey.text.inj (List.cons.inj z1).1
    have z3 := num_inj (NestedKey.tup.inj (List.cons.inj (List.cons.inj z1).2).1)
    have : g = ptG x := Prod.ext z2.symm z3.symm
    rw [this, asPt_pt] at e; cases e
theorem plain_g {g : GPt} (h : GOk g) : plain (encG g) = true := by
  unfold encG; rw [plain, plains, plains, plain_encP, plains, plain]
  rw [h]; rfl
theorem deep_g (g : GPt) : deep (encG g) = 2 := by
  unfold encG; rw [deep, deeps, deeps, deep_encP, deeps, deep]; rfl; exact fun _ h => nomatch h
def GsOk (gs : List GPt) : Prop := ∀ g ∈ gs, GOk g
theorem plains_gs {gs : List GPt} (h : GsOk gs) : plains (gs.map encG) = true := plains_mem.mpr fun d hd => by
  obtain ⟨p, hp, rfl⟩ := List.mem_map.mp hd; exact plain_g (h p hp)
theorem deeps_gs (gs : List GPt) : deeps (gs.map encG) ≤ 63 := deeps_le.mpr fun d hd => by
  obtain ⟨p, _, rfl⟩ := List.mem_map.mp hd; rw [deep_g]; decide
theorem encG_inj {x y : GPt} (h : encG x = encG y) : x = y := by
  unfold encG at h
  injection h with h
  have h1 := (List.cons.inj h).1
  have h2 := (List.cons.inj (List.cons.inj h).2).1
  exact Prod.ext (DV.str.inj h1) (encP_inj h2)
theorem map_encG_inj {ps qs : List GPt} (h : ps.map encG = qs.map encG) : ps = qs := (List.map_inj_right (fun _ _ e => encG_inj e)).mp h
theorem map_encPt (xs : List Pt) : xs.map encPt = (xs.map ptG).map encG := by rw [List.map_map]; rfl
theorem gsOk_pts (xs : List Pt) : GsOk (xs.map ptG) := fun g hg => by obtain ⟨x, _, rfl⟩ := List.mem_map.mp hg; exact gok_pt x
/-! locks leave what is read -/
theorem unlock_lock (st : Sto) (ls : List Addr) : unlockS st (lockS st ls) ls = st := by
  funext a
  unfold unlockS lockS
  split
  · cases st a with
    | none => rfl
    | some o => cases o <;> rfl
  · rfl
theorem lstAt_lock (st : Sto) (ls : List Addr) (b : Addr) : lstAt (lockS st ls) b = lstAt st b := by
  unfold lstAt lockS
  by_cases h : b ∈ ls
  · rw [if_pos h]
    cases st b with
    | none => rfl
    | some o => cases o <;> rfl
  · rw [if_neg h]
theorem dicAt_lock (st : Sto) (ls : List Addr) (b : Addr) : dicAt (lockS st ls) b = dicAt st b := by
  unfold dicAt lockS
  by_cases h : b ∈ ls
  · rw [if_pos h]
    cases st b with
    | none => rfl
    | some o => cases o <;> rfl
  · rw [if_neg h]
theorem dicAt_some {st : Sto} {a : Addr} {kvs : List (DV × DV)} (h : dicAt st a = some kvs) : ∃ o, st a = some o := by
  unfold dicAt at h
  cases e : st a with
  | none => rw [e] at h; cases h
  | some o => exact ⟨o, rfl⟩
theorem dicAt_new {st : Sto} {a p : Addr} {o : Ob} {kvs : List (DV × DV)} (h : dicAt st a = some kvs) (hp : st p = none) : dicAt (put st p o) a = some kvs := by
  obtain ⟨u, hu⟩ := dicAt_some h
  rw [dicAt_put (ne_some hu hp)]; exact h
theorem dicAt_sub {st st' : Sto} {a : Addr} {kvs : List (DV × DV)} (h : dicAt st a = some kvs) (s : Sub st st') : dicAt st' a = some kvs := by
  obtain ⟨u, hu⟩ := dicAt_some h
  unfold dicAt at h ⊢
  rw [s a u hu]; rw [hu] at h; exact h
theorem lstAt_sub {st st' : Sto} {a : Addr} {xs : List DV} (h : lstAt st a = some xs) (s : Sub st st') : lstAt st' a = some xs := lstAt_keep h fun o e => s a o e
theorem Sub.none {st st' : Sto} (s : Sub st st') {a : Addr} (h : st' a = none) : st a = none := by
  cases e : st a with
  | none => rfl
  | some o => rw [s a o e] at h; cases h
theorem Sub.put {st st' : Sto} (s : Sub st st') {p : Addr} {o : Ob} (h : st' p = Option.none) : Sub st (Sw.put st' p o) := fun a u e => new_some (s a u e) h
theorem Sub.both {st st' : Sto} (s : Sub st st') {p : Addr} {o : Ob} : Sub (Sw.put st p o) (Sw.put st' p o) := fun a u e => by
  by_cases h : a = p
  · subst h; rw [put_same] at e ⊢; exact e
  · rw [put_ne h] at e ⊢; exact s a u e
/-- a change at an address that the smaller store does not hold -/
theorem Sub.chg {st st' : Sto} (s : Sub st st') {p : Addr} {o : Ob} (h : st p = Option.none) : Sub st (Sw.put st' p o) := fun a u e => by
  rw [put_ne (ne_some e h)]; exact s a u e
structure TiedR (st : Sto) (d : Addr) (m : List (Pt × Addr)) (es : List (Pt × Pt)) : Prop where
  dic : dicAt st d = some (dmap ptEnc DV.ref m)
  at' : ∀ x ∈ m, lstAt st x.2 = some ((outs es x.1).map encPt)
theorem Tied.rd {st0 st : Sto} {d : Addr} {m : List (Pt × Addr)} {es : List (Pt × Pt)} (T : Tied st0 st d m es) : TiedR st d m es := ⟨dicAt_d T.dic, fun x hx => lstAt_lst (T.at' x hx)⟩
section
variable {st st' : Sto} {d : Addr} {m : List (Pt × Addr)} {es : List (Pt × Pt)}
theorem TiedR.sub (T : TiedR st d m es) (s : Sub st st') : TiedR st' d m es := ⟨dicAt_sub T.dic s, fun x hx => lstAt_sub (T.at' x hx) s⟩
theorem TiedR.new (T : TiedR st d m es) {p : Addr} {o : Ob} (h : st p = none) : TiedR (put st p o) d m es := ⟨dicAt_new T.dic h, fun x hx => lstAt_new (T.at' x hx) h⟩
theorem TiedR.lock (T : TiedR st d m es) (ls : List Addr) : TiedR (lockS st ls) d m es := ⟨by rw [dicAt_lock]; exact T.dic, fun x hx => by rw [lstAt_lock]; exact T.at' x hx⟩
theorem TiedR.look (T : TiedR st d m es) {x : Pt} {v : Addr} (h : assoc m x = some v) : lstAt st v = some ((outs es x).map encPt) := T.at' _ (assoc_mem h)
end
/-! roads -/
def hasK (ks : List Pt) (g : GPt) : Bool := match asPt g with | some p => decide (p ∈ ks) | none => false
def stepB (o : Pt → List Pt) (g h : GPt) : Bool := match asPt g, asPt h with | some p, some q => decide (q ∈ o p) | _, _ => false
def pairsG (gs : List GPt) : List (GPt × GPt) := gs.zip (gs.drop 1)
def roadB (ks : List Pt) (o : Pt → List Pt) (gs : List GPt) : Bool := !gs.isEmpty && gs.all (hasK ks) && (pairsG gs).all fun x => stepB o x.1 x.2
theorem roadB_congr {ks ks' : List Pt} {o o' : Pt → List Pt} (h1 : ∀ p, p ∈ ks ↔ p ∈ ks') (h2 : ∀ p q, q ∈ o p ↔ q ∈ o' p) (gs : List GPt) : roadB ks o gs = roadB ks' o' gs := by
  have e1 : hasK ks = hasK ks' := by
    funext g; unfold hasK; cases asPt g with
    | none => rfl
    | some p => simp only [h1 p]
  have e2 : stepB o = stepB o' := by
    funext g h; unfold stepB
    cases asPt g <;> cases asPt h <;> try rfl
    simp only [h2]
  unfold roadB; rw [e1, e2]
theorem hasK_look {m : List (Pt × Addr)} (g : GPt) : (lookD (dmap ptEnc DV.ref m) (gKey g)).isSome = hasK (m.map (·.1)) g := by
  rw [lookD_g]
  unfold hasK
  cases asPt g with
  | none => rfl
  | some p =>
    simp only [Option.bind_some, Option.isSome_map]
    cases e : assoc m p with
    | none => simp [assoc_none e]
    | some v => simp [List.mem_map.mpr ⟨_, assoc_mem e, rfl⟩]
theorem stepB_mem {o : Pt → List Pt} {x : Pt} (h : GPt) : stepB o (ptG x) h = true ↔ encG h ∈ (o x).map encPt := by
  unfold stepB
  rw [asPt_pt]
  constructor
  · intro z
    cases e : asPt h with
    | none => rw [e] at z; cases z
    | some q =>
      rw [e] at z
      have := asPt_some e
      subst this
      exact List.mem_map.mpr ⟨q, of_decide_eq_true z, rfl⟩
  · intro z
    obtain ⟨q, hq, e⟩ := List.mem_map.mp z
    have : ptG q = h := encG_inj e
    subst this
    rw [asPt_pt]
    exact decide_eq_true hq
theorem inL_g {neg : Bool} {g : GPt} {ds : List DV} {st : Sto} {Q : DV → Sto → Prop} : inL neg (encG g) (some ds) st Q = ∃ b, InIs st (encG g) ds b ∧ Q (.bl (neg ^^ b)) st := rfl
theorem zipD_gs (gs : List GPt) : zipD (gs.map encG) ((gs.map encG).drop 1) = (pairsG gs).map fun x => .tup [encG x.1, encG x.2] := by
  unfold zipD pairsG
  rw [← List.map_drop, List.zipWith_map, List.zip, List.map_zipWith]
theorem mem_pairs {gs : List GPt} {x : GPt × GPt} (h : x ∈ pairsG gs) : x.1 ∈ gs ∧ x.2 ∈ gs := by
  obtain ⟨a, b⟩ := x
  have h1 := List.of_mem_zip h
  exact ⟨h1.1, List.mem_of_mem_drop h1.2⟩
theorem pairs_len (gs : List GPt) : (pairsG gs).length ≤ gs.length := by unfold pairsG; rw [List.length_zip]; exact Nat.min_le_left _ _
theorem filterMap_bl {α : Type} (f : α → Bool) (xs : List α) : blsOf (xs.filterMap fun x => some (.bl (f x))) = some (xs.map f) := by
  have : (xs.filterMap fun x => some (DV.bl (f x))) = (xs.map f).map DV.bl := by rw [List.map_map, ← List.filterMap_eq_map']; rfl
  rw [this, blsOf_map]
end Sw

/-! Expressions that only read and make new lists. -/
namespace Sw
open PySem PySem.Spec PyProof.Rows L2 PySem.W
section
variable {W : XD} {ρ : Rho} {st : Sto}
/-- at any greater store it comes to d and leaves the store -/
def PuE (m : ME) (W : XD) (ρ : Rho) (st : Sto) (d : DV) : Prop := ∀ s Q, Sub st s → Q d s → m W ρ s Q
def PuO (m : MO) (W : XD) (ρ : Rho) (st : Sto) (o : Option Int) : Prop := ∀ s Q, Sub st s → Q o s → m W ρ s Q
/-- at any greater store it comes to a new list of xs -/
def FrL (m : ME) (W : XD) (ρ : Rho) (st : Sto) (xs : List DV) : Prop := ∀ s Q, Sub st s → (∀ a s2, Sub s s2 → s2 a = some (.lst xs) → s a = none → Q (.ref a) s2) → m W ρ s Q
/-- new lists -/
abbrev NewLs (s s2 : Sto) : List Addr → List (List DV) → Prop := Paired fun a xs => s2 a = some (.lst xs) ∧ s a = none
def FrA (m : MA) (W : XD) (ρ : Rho) (st : Sto) (xss : List (List DV)) : Prop := ∀ s Q, Sub st s → (∀ as s2, Sub s s2 → NewLs s s2 as xss → Q (as.map DV.ref) s2) → m W ρ s Q
theorem PuE.var {i : Nat} {d : DV} (h : ρ.getD i none = some d) : PuE (mVar i) W ρ st d := fun s Q _ q => by rw [mVar_eq, h]; exact q
theorem PuE.c {d : DV} : PuE (mC d) W ρ st d := fun s Q _ q => q
theorem PuE.addI {ma mb : ME} {i j : Int} (ha : PuE ma W ρ st (.int i)) (hb : PuE mb W ρ st (.int j)) : PuE (mOp addD ma mb) W ρ st (.int (i + j)) := fun s Q z q => ha s _ z (hb s _ z q)
theorem PuE.ix {ma mb : ME} {a : Addr} {xs : List DV} {k : Int} {d : DV} (ha : PuE ma W ρ st (.ref a)) (hx : lstAt st a = some xs) (hb : PuE mb W ρ st (.int k)) (h : L2.atI xs k = some d) : PuE (mOp ixD ma mb) W ρ st d := fun s Q z q => ha s _ z (hb s _ z (by rw [ixD_ri, lstAt_sub hx z, ixL_s, h]; exact q))
theorem PuO.none : PuO oNone W ρ st none := fun s Q _ q => q
theorem PuO.some {m : ME} {i : Int} (h : PuE m W ρ st (.int i)) : PuO (oSome m) W ρ st (some i) := fun s Q z q => h s _ z q
theorem FrL.slice {ma : ME} {lo hi : MO} {a : Addr} {xs : List DV} {l u : Option Int} (ha : PuE ma W ρ st (.ref a)) (hx : lstAt st a = some xs) (hl : PuO lo W ρ st l) (hu : PuO hi W ρ st u) : FrL (mSl slD ma lo hi) W ρ st (cutD xs l u) := fun s Q z q =>
  ha s _ z (hl s _ z (hu s _ z (by
    rw [slD_r, lstAt_sub hx z]
    exact fun p hp => q p _ (Sub.new hp) put_same hp)))
theorem FrL.rev {ma : ME} {a : Addr} {xs : List DV} (ha : PuE ma W ρ st (.ref a)) (hx : lstAt st a = some xs) : FrL (mRev ma) W ρ st xs.reverse := fun s Q z q =>
  ha s _ z (by
    rw [revR_r, lstAt_sub hx z]
    exact fun p hp => q p _ (Sub.new hp) put_same hp)
theorem FrL.add {ma mb : ME} {xs ys : List DV} (ha : FrL ma W ρ st xs) (hb : FrL mb W ρ st ys) (hl : xs.length + ys.length ≤ sizeLine) : FrL (mOp addD ma mb) W ρ st (xs ++ ys) := fun s Q z q =>
  ha s _ z fun a s2 z2 e2 n2 => hb s2 _ (z.trans z2) fun b s3 z3 e3 n3 => by
    rw [addD_rr, z3 a _ e2, e3]
    exact ⟨hl, fun p hp => q p _ (z2.trans (z3.trans (Sub.new hp))) put_same ((z2.trans z3).none hp)⟩
theorem FrL.addV {ma mb : ME} {a : Addr} {xs ys : List DV} (ha : PuE ma W ρ st (.ref a)) (hx : st a = some (.lst xs)) (hb : FrL mb W ρ st ys) (hl : xs.length + ys.length ≤ sizeLine) : FrL (mOp addD ma mb) W ρ st (xs ++ ys) := fun s Q z q =>
  ha s _ z (hb s _ z fun b s3 z3 e3 n3 => by
    rw [addD_rr, (z.trans z3) a _ hx, e3]
    exact ⟨hl, fun p hp => q p _ (z3.trans (Sub.new hp)) put_same (z3.none hp)⟩)
theorem FrL.addV2 {ma mb : ME} {b : Addr} {xs ys : List DV} (ha : FrL ma W ρ st xs) (hb : PuE mb W ρ st (.ref b)) (hx : st b = some (.lst ys)) (hl : xs.length + ys.length ≤ sizeLine) : FrL (mOp addD ma mb) W ρ st (xs ++ ys) := fun s Q z q =>
  ha s _ z fun a s2 z2 e2 n2 => hb s2 _ (z.trans z2) (by
    rw [addD_rr, (z.trans z2) b _ hx, e2]
    exact ⟨hl, fun p hp => q p _ (z2.trans (Sub.new hp)) put_same (z2.none hp)⟩)
theorem FrL.nil : FrL (mLst aNil) W ρ st [] := fun s Q z q => ⟨Nat.zero_le _, fun p hp => q p _ (Sub.new hp) put_same hp⟩
theorem FrL.one {m : ME} {d : DV} (h : PuE m W ρ st d) : FrL (mLst (aCons m aNil)) W ρ st [d] := fun s Q z q => h s _ z ⟨by show 1 ≤ sizeLine; decide, fun p hp => q p _ (Sub.new hp) put_same hp⟩
theorem FrA.nil : FrA aNil W ρ st [] := fun s Q z q => q [] s (Sub.refl _) .nil
theorem NewLs.up {s s2 s3 : Sto} {as : List Addr} {xss : List (List DV)} (h : NewLs s s2 as xss) (z : Sub s2 s3) : NewLs s s3 as xss := Paired.mapP h fun _ _ q => ⟨z _ _ q.1, q.2⟩
theorem NewLs.dn {s s1 s3 : Sto} {as : List Addr} {xss : List (List DV)} (h : NewLs s1 s3 as xss) (z : Sub s s1) : NewLs s s3 as xss := Paired.mapP h fun _ _ q => ⟨q.1, z.none q.2⟩
theorem FrA.cons {m : ME} {ms : MA} {xs : List DV} {xss : List (List DV)} (h : FrL m W ρ st xs) (hs : FrA ms W ρ st xss) : FrA (aCons m ms) W ρ st (xs :: xss) := fun s Q z q =>
  h s _ z fun a s2 z2 e2 n2 => hs s2 _ (z.trans z2) fun as s3 z3 h3 => q (a :: as) s3 (z2.trans z3) (.cons ⟨z3 _ _ e2, n2⟩ (h3.dn z2))
/-- a list of new lists -/
structure Ways (st0 s : Sto) (w : Addr) (xss : List (List DV)) : Prop where
  sub : Sub st0 s
  new : st0 w = none
  is : ∃ as : List Addr, s w = some (.lst (as.map DV.ref)) ∧ NewLs st0 s as xss
theorem FrA.ways {ms : MA} {xss : List (List DV)} {s : Sto} {Q : DV → Sto → Prop} (h : FrA ms W ρ st xss) (z : Sub st s) (hl : xss.length ≤ sizeLine) (q : ∀ w s2, Ways st s2 w xss → Sub s s2 → Q (.ref w) s2) : mLst ms W ρ s Q :=
  h s _ z fun as s2 z2 n2 => ⟨by rw [List.length_map, paired_len n2]; exact hl, fun p hp => q p _ ⟨z.trans (z2.trans (Sub.new hp)), (z.trans z2).none hp, as, put_same, (n2.dn z).up (Sub.new hp)⟩ (z2.trans (Sub.new hp))⟩
theorem Ways.add {ms : MA} {xss yss : List (List DV)} {s : Sto} {w : Addr} {ma : ME} {Q : DV → Sto → Prop} (U : Ways st s w xss) (ha : PuE ma W ρ s (.ref w)) (h : FrA ms W ρ st yss) (hl : xss.length + yss.length ≤ sizeLine) (q : ∀ w2 s2, Ways st s2 w2 (xss ++ yss) → Q (.ref w2) s2) : mOp addD ma (mLst ms) W ρ s Q := by
  refine ha s _ (Sub.refl _) (h.ways U.sub (by omega) fun v s2 V z => ?_)
  obtain ⟨as, e1, n1⟩ := U.is
  obtain ⟨bs, e2, n2⟩ := V.is
  rw [addD_rr, z w _ e1, e2]
  refine ⟨by rw [List.length_map, List.length_map, paired_len n1, paired_len n2]; exact hl, fun p hp => q p _ ⟨V.sub.trans (Sub.new hp), V.sub.none hp, as ++ bs, by rw [put_same, List.map_append], paired_append ((n1.up z).up (Sub.new hp)) (n2.up (Sub.new hp))⟩⟩
/-- one of them -/
theorem Ways.at {s : Sto} {w : Addr} {xss : List (List DV)} (U : Ways st s w xss) {k : Int} (h0 : 0 ≤ k) (h1 : k < xss.length) : ∃ a xs, lstAt s w = some ((U.is.choose).map DV.ref) ∧ L2.atI ((U.is.choose).map DV.ref) k = some (.ref a) ∧ xs ∈ xss ∧ s a = some (.lst xs) ∧ st a = none := by
  have h := U.is.choose_spec
  generalize U.is.choose = as at h
  obtain ⟨e1, n1⟩ := h
  obtain ⟨j, rfl⟩ := Int.eq_ofNat_of_zero_le h0
  have hj : j < xss.length := by omega
  obtain ⟨a, ha, h2⟩ := paired_get2 n1 (List.getElem?_eq_getElem hj)
  exact ⟨a, xss[j], lstAt_lst e1, atI_nat (by rw [List.getElem?_map, ha]; rfl), List.getElem_mem hj, h2.1, h2.2⟩
end
theorem tape_step {st s : Sto} {tp : Addr} {o o' : Ob} (h : Sub (put st tp o) s) : Sub (put st tp o') (put s tp o') := fun a u e => by
  by_cases n : a = tp
  · subst n; rw [put_same] at e ⊢; exact e
  · rw [put_ne n] at e ⊢; exact h a u (by rw [put_ne n]; exact e)
theorem tape_at {st s : Sto} {tp : Addr} {o : Ob} (h : Sub (put st tp o) s) : s tp = some o := h tp o put_same
theorem TiedR.tape {st : Sto} {d tp : Addr} {n n' : Int} {m : List (Pt × Addr)} {es : List (Pt × Pt)} (T : TiedR st d m es) (h : st tp = some (.lst [.int n])) : TiedR (put st tp (.lst [.int n'])) d m es := by
  refine ⟨?_, fun x hx => ?_⟩
  · have nd : d ≠ tp := by
      rintro rfl
      have := T.dic
      unfold dicAt at this
      rw [h] at this; cases this
    rw [dicAt_put nd]; exact T.dic
  · have nx : x.2 ≠ tp := by
      intro e
      have := T.at' x hx
      rw [e, lstAt_lst h] at this
      cases z : outs es x.1 with
      | nil => rw [z] at this; cases this
      | cons y r => rw [z, List.map_cons] at this; unfold encPt at this; simp at this
    rw [lstAt_put nx]; exact T.at' x hx
theorem lstAt_tape {st : Sto} {a tp : Addr} {n n' : Int} {gs : List GPt} (h : st tp = some (.lst [.int n])) (ha : lstAt st a = some (gs.map encG)) : lstAt (put st tp (.lst [.int n'])) a = some (gs.map encG) := by
  have nx : a ≠ tp := by
    rintro rfl
    rw [lstAt_lst h] at ha
    cases gs with
    | nil => cases ha
    | cons y r => rw [List.map_cons] at ha; unfold encG at ha; simp at ha
  rw [lstAt_put nx]; exact ha
end Sw
namespace Sw
open PySem PySem.Spec PyProof.Rows L2 PySem.W
def GL (n : Nat) (xs : List DV) : Prop := ∃ hs : List GPt, xs = hs.map encG ∧ GsOk hs ∧ hs.length ≤ n
theorem GL.len {n : Nat} {xs : List DV} (h : GL n xs) : xs.length ≤ n := by obtain ⟨hs, rfl, _, h⟩ := h; rw [List.length_map]; exact h
theorem GL.mono {n k : Nat} {xs : List DV} (h : GL n xs) (hk : n ≤ k) : GL k xs := by obtain ⟨hs, e, o, h⟩ := h; exact ⟨hs, e, o, Nat.le_trans h hk⟩
theorem GL.cut {n : Nat} {xs : List DV} (h : GL n xs) (lo hi : Option Int) : GL n (cutD xs lo hi) := by
  obtain ⟨hs, rfl, o, h⟩ := h
  unfold cutD
  rw [List.length_map]
  generalize HT.sIx hs.length 0 lo = i
  generalize HT.sIx hs.length hs.length hi - i = j
  refine ⟨(hs.drop i).take j, by rw [List.map_take, List.map_drop], fun g hg => o g (List.mem_of_mem_drop (List.mem_of_mem_take hg)), ?_⟩
  rw [List.length_take, List.length_drop]; omega
theorem GL.app {a b : Nat} {xs ys : List DV} (h : GL a xs) (h' : GL b ys) : GL (a + b) (xs ++ ys) := by
  obtain ⟨hs, rfl, o, h⟩ := h
  obtain ⟨hs', rfl, o', h'⟩ := h'
  exact ⟨hs ++ hs', by rw [List.map_append], fun g hg => (List.mem_append.mp hg).elim (o g) (o' g), by rw [List.length_append]; omega⟩
theorem GL.one {g : GPt} (h : GOk g) : GL 1 [encG g] := ⟨[g], rfl, fun x hx => by simp at hx; subst hx; exact h, Nat.le_refl _⟩
theorem GL.nil : GL 0 [] := ⟨[], rfl, fun x hx => (nomatch hx), Nat.le_refl _⟩
theorem GL.rev {n : Nat} {xs : List DV} (h : GL n xs) : GL n xs.reverse := by
  obtain ⟨hs, rfl, o, h⟩ := h
  exact ⟨hs.reverse, by rw [List.map_reverse], fun g hg => o g (List.mem_reverse.mp hg), by rw [List.length_reverse]; exact h⟩
section
variable {W : XD} {ρ : Rho} {st : Sto}
/-- a new list of points -/
def FrG (m : ME) (W : XD) (ρ : Rho) (st : Sto) (n : Nat) : Prop := ∃ xs, FrL m W ρ st xs ∧ GL n xs
theorem FrG.slice {ma : ME} {lo hi : MO} {a : Addr} {xs : List DV} {l u : Option Int} {n : Nat} (ha : PuE ma W ρ st (.ref a)) (hx : lstAt st a = some xs) (g : GL n xs) (hl : PuO lo W ρ st l) (hu : PuO hi W ρ st u) : FrG (mSl slD ma lo hi) W ρ st n := ⟨_, FrL.slice ha hx hl hu, g.cut l u⟩
theorem FrG.add {ma mb : ME} {a b : Nat} (ha : FrG ma W ρ st a) (hb : FrG mb W ρ st b) (hl : a + b ≤ 1000) : FrG (mOp addD ma mb) W ρ st (a + b) := by
  obtain ⟨xs, f, g⟩ := ha
  obtain ⟨ys, f', g'⟩ := hb
  exact ⟨_, f.add f' (small (by have := g.len; have := g'.len; omega)), g.app g'⟩
theorem FrG.addV {ma mb : ME} {a : Addr} {xs : List DV} {n b : Nat} (ha : PuE ma W ρ st (.ref a)) (hx : st a = some (.lst xs)) (g : GL n xs) (hb : FrG mb W ρ st b) (hl : n + b ≤ 1000) : FrG (mOp addD ma mb) W ρ st (n + b) := by
  obtain ⟨ys, f', g'⟩ := hb
  exact ⟨_, FrL.addV ha hx f' (small (by have := g.len; have := g'.len; omega)), g.app g'⟩
theorem FrG.addV2 {ma mb : ME} {b : Addr} {ys : List DV} {n a : Nat} (ha : FrG ma W ρ st a) (hb : PuE mb W ρ st (.ref b)) (hx : st b = some (.lst ys)) (g : GL n ys) (hl : a + n ≤ 1000) : FrG (mOp addD ma mb) W ρ st (a + n) := by
  obtain ⟨xs, f', g'⟩ := ha
  exact ⟨_, FrL.addV2 f' hb hx (small (by have := g.len; have := g'.len; omega)), g'.app g⟩
theorem FrG.rev {ma : ME} {a : Addr} {xs : List DV} {n : Nat} (ha : PuE ma W ρ st (.ref a)) (hx : lstAt st a = some xs) (g : GL n xs) : FrG (mRev ma) W ρ st n := ⟨_, FrL.rev ha hx, g.rev⟩
theorem FrG.nil : FrG (mLst aNil) W ρ st 0 := ⟨_, FrL.nil, GL.nil⟩
theorem FrG.one {m : ME} {g : GPt} (h : PuE m W ρ st (encG g)) (o : GOk g) : FrG (mLst (aCons m aNil)) W ρ st 1 := ⟨_, FrL.one h, GL.one o⟩
/-- a list of k new lists of points -/
def WaysG (st s : Sto) (w : Addr) (k n : Nat) : Prop := ∃ xss, Ways st s w xss ∧ xss.length = k ∧ ∀ xs ∈ xss, GL n xs
def FrAG (m : MA) (W : XD) (ρ : Rho) (st : Sto) (k n : Nat) : Prop := ∃ xss, FrA m W ρ st xss ∧ xss.length = k ∧ ∀ xs ∈ xss, GL n xs
theorem FrAG.nil {n : Nat} : FrAG aNil W ρ st 0 n := ⟨[], FrA.nil, rfl, fun xs h => nomatch h⟩
theorem FrAG.cons {m : ME} {ms : MA} {k n a : Nat} (h : FrG m W ρ st a) (ha : a ≤ n) (hs : FrAG ms W ρ st k n) : FrAG (aCons m ms) W ρ st (k + 1) n := by
  obtain ⟨xs, f, g⟩ := h
  obtain ⟨xss, fs, e, gs⟩ := hs
  exact ⟨xs :: xss, FrA.cons f fs, by simp [e], fun ys hy => (List.mem_cons.mp hy).elim (fun z => z ▸ g.mono ha) (gs ys)⟩
theorem FrAG.ways {ms : MA} {k n : Nat} {s : Sto} {Q : DV → Sto → Prop} (h : FrAG ms W ρ st k n) (z : Sub st s) (hl : k ≤ 1000) (q : ∀ w s2, WaysG st s2 w k n → Q (.ref w) s2) : mLst ms W ρ s Q := by
  obtain ⟨xss, f, e, g⟩ := h
  exact f.ways z (small (by omega)) fun w s2 U _ => q w s2 ⟨xss, U, e, g⟩
theorem WaysG.add {ms : MA} {s : Sto} {w : Addr} {k k2 n : Nat} {ma : ME} {Q : DV → Sto → Prop} (U : WaysG st s w k n) (ha : PuE ma W ρ s (.ref w)) (h : FrAG ms W ρ st k2 n) (hl : k + k2 ≤ 1000) (q : ∀ w2 s2, WaysG st s2 w2 (k + k2) n → Q (.ref w2) s2) : mOp addD ma (mLst ms) W ρ s Q := by
  obtain ⟨xss, U, e, g⟩ := U
  obtain ⟨yss, f, e', g'⟩ := h
  exact U.add ha f (small (by omega)) fun w2 s2 U2 => q w2 s2 ⟨_, U2, by rw [List.length_append]; omega, fun xs hx => (List.mem_append.mp hx).elim (g xs) (g' xs)⟩
end
end Sw

/-! {k: v} with a tuple for a key; roads. -/
namespace Sw
open PySem PySem.Spec PyProof.Rows L2 PySem.W
section
variable {X : Cx} {E : XK} {k v : Expr} {mk mv : ME} {pos : Pos}
def tNDisp (P : Program) (w : World) (K : PySem.W.Frag) (tk tv : TE) : TE := fun σ H Q => ∀ p, (p == sysModules) = false → H p = none → tk σ (upd H p (.ext (NDk P w p []))) fun x H1 => tv σ H1 fun y H2 => H2 p = some (.ext (NDk P w p [])) ∧
  ∃ b key, x = .ref b ∧ KeyAt K H2 key b ∧ Q (.ref p) (upd H2 p (.ext (NDk P w p [(key, b, y)])))
theorem pe_ndisp {tk tv : TE} (hu : X.A.units + 65 < cLine) (hk : PE X k tk) (hv : PE X v tv) : PE X (.Dict [some k] [v] pos) (tNDisp X.prog X.w X.K tk tv) := by
  refine ⟨fun pins s σ H Q I q => ?_⟩
  have sys : (s.heap.objs.size == sysModules) = false := beq_eq_false_iff_ne.mpr (Ne.symm (Nat.ne_of_lt I.big))
  have hn := I.hok.fresh (Nat.le_refl s.heap.objs.size)
  have I1 := I.laid (a := s.heap.objs.size) (o := .ext (NDk X.prog X.w s.heap.objs.size [])) (h' := s.heap.push { cls := .type "dict", data := .dict #[] }) (t' := s.toks) (fun _ _ q => Heap.get?_push_of_some _ q) (Nat.le_refl _) (ndk_ok .nil (Heap.DictOfH.new s.heap))
  have hz := zip_pairTrees [some k] [v] X.env pos rfl rfl
  rw [arm_eval_Dict, hz, dictDisplay_pairs (pairTrees [some k] [v] X.env pos) (by intro z; cases z) (by show 1 < 17; decide)]
  refine wpAny_bind (wpAny_standAt (wpAny_bind (wpAny_subDictH (knd := nestedKind X.prog X.w) (Q := fun d s' => wpAny (model X.prog X.w) X.A (pure (Value.ref d)) _ X.xe s') (show X.A.units + 8 < cLine by omega) (by show 1 ≤ 15; decide) ?_)))
  refine thn ((pps_cons hk hv pps_nil).run pins _ σ _ (fun ps H2 => match ps with | [(x, y)] => H2 s.heap.objs.size = some (.ext (NDk X.prog X.w s.heap.objs.size [])) ∧ ∃ b key, x = .ref b ∧ KeyAt X.K H2 key b ∧ Q (.ref s.heap.objs.size) (upd H2 s.heap.objs.size (.ext (NDk X.prog X.w s.heap.objs.size [(key, b, y)]))) | _ => False) I1 (q _ sys hn)) fun ws s2 ⟨ps, H2, I2, rel, z⟩ => ?_
  split at z
  · rename_i x y
    obtain ⟨e, b, key, rfl, ka, q2⟩ := z
    cases rel with
    | @cons _ wp _ _ r rs =>
      cases rs
      obtain ⟨wk, wv⟩ := wp
      obtain ⟨r1, r2⟩ := r
      have r1' : wk = Value.ref b := r1
      subst r1'
      have d0 : DicAt X.prog X.w X.K H2 s.heap.objs.size [] [] := ⟨sys, .inl e, .nil⟩
      obtain ⟨xs, p1, p2⟩ := dic_heap I2 d0
      cases p1
      refine ⟨[(key, b, wv)], ⟨rfl, rfl, ka.is I2, trivial⟩, p2, fun h' tk hm hs => wpAny_pure ⟨.ref s.heap.objs.size, _, ?_, rfl, q2⟩⟩
      have hm2 := hm
      obtain ⟨o, es, ep, z1, zr⟩ := hm2
      exact d_write I2 (by rw [e]; exact True.intro) hs ⟨o, z1⟩ (ndk_ok (.cons ⟨rfl, rfl, r2⟩ .nil) hm)
  · exact z.elim
def ndispL (p : Addr) (x y : DV) (k : Option NestedKey) (st : Sto) (Q : DV → Sto → Prop) : Prop := match k with | some _ => Q (.ref p) (put st p (.dic [(x, y)])) | none => False
def mNDisp (mk mv : ME) : ME := fun W ρ st Q => mk W ρ st fun x st1 => mv W ρ st1 fun y st2 => ∀ p, st2 p = none → ndispL p x y (keyT x) st2 Q
theorem de_ndisp (hu : X.A.units + 65 < cLine) (hk : DE X E k mk) (hv : DE X E v mv) : DE X E (.Dict [some k] [v] pos) (mNDisp mk mv) := by
  obtain ⟨tk, pk, qk⟩ := hk
  obtain ⟨tv, pv, qv⟩ := hv
  refine ⟨_, pe_ndisp hu pk pv, fun W ρ σ st H Qd Q S h kk p hz hp => ?_⟩
  have np : st p = none := S.g.free hp
  have S1 := S.step (S.g.new0 (o := .ext (NDk X.prog X.w p [])) hp) (Stp.new0 hp)
  refine qk W ρ σ st _ _ _ S1 h fun x st1 v1 H1 h1 r1 g1 s1 => ?_
  refine qv W ρ σ st1 H1 _ _ (S1.step g1 s1) h1 fun y st2 v2 H2 h2 r2 g2 s2 => ?_
  have s12 := s1.trans s2
  have eD : H2 p = some (.ext (NDk X.prog X.w p [])) := s12.keep p _ upd_same np
  have nD : st2 p = none := s12.dom p _ upd_same np
  refine ⟨eD, ?_⟩
  have h3 := h2 p nD
  unfold ndispL at h3
  split at h3
  · rename_i key ek
    have r1' := r1.mono (s2.tup g1)
    obtain ⟨b, rfl, ka, e3, e4⟩ := keyT_at r1' ek
    refine ⟨b, key, rfl, ka, ?_⟩
    have t : TupX X.K H2 (upd H2 p (.ext (NDk X.prog X.w p [(key, b, v2)]))) := tupX_upd fun xs z => by rcases z with z | ⟨o, z⟩ <;> · rw [eD] at z; cases z
    refine kk _ _ _ _ h3 (.ref p) (fun a o q => ?_) ⟨fun a o q n => ?_, fun a o q n => ?_, fun a es o q n i => ?_, fun a z => upd_gone (s12.all a (upd_gone z))⟩
    · by_cases ea : a = p
      · subst ea; rw [put_same] at q; cases q; exact ⟨hz, _, upd_same, .cons ⟨e3, e4, r1'.mono t, r2.mono t⟩ .nil⟩
      · rw [put_ne ea] at q; exact (g2 a o q).mono t (upd_ne ea)
    · have na := ne_of_none q hp
      rw [upd_ne na]; exact s12.keep a o (by rw [upd_ne na]; exact q) n
    · have na := ne_of_none q hp
      rw [put_ne na]; exact s12.dom a o (by rw [upd_ne na]; exact q) n
    · have na := ne_of_none q hp
      rw [upd_ne na, put_ne na]
      exact s12.ro a es o (by rw [upd_ne na]; exact q) n i
  · exact h3.elim
theorem mNDisp_eq {W : XD} {ρ : Rho} {st : Sto} {Q : DV → Sto → Prop} : mNDisp mk mv W ρ st Q = mk W ρ st fun x st1 => mv W ρ st1 fun y st2 => ∀ p, st2 p = none → ndispL p x y (keyT x) st2 Q := rfl
theorem ndispL_s {p : Addr} {x y : DV} {key : NestedKey} {st : Sto} {Q : DV → Sto → Prop} : ndispL p x y (some key) st Q = Q (.ref p) (put st p (.dic [(x, y)])) := rfl
end
end Sw

/-! What can be come to; the rows of the walks. -/
namespace Sw
open PySem PySem.Spec PyProof.Rows L2 PySem.W
section
variable {α : Type} [DecidableEq α]
inductive Reach (o : α → List α) (p : α) : α → Prop
  | refl : Reach o p p
  | step {q r : α} : Reach o p q → r ∈ o q → Reach o p r
theorem Reach.congr {o o' : α → List α} (h : ∀ p q, q ∈ o p → q ∈ o' p) {p q : α} (r : Reach o p q) : Reach o' p q := by
  induction r with
  | refl => exact .refl
  | step _ hr ih => exact .step ih (h _ _ hr)
/-- rs: each come to, with the one ahead of it, as they are found -/
structure Ahead (o : α → List α) (start : α) (rs : List (α × α)) : Prop where
  hd : rs.head? = some (start, start)
  nd : (rs.map (·.1)).Nodup
  par : ∀ (i : Nat) (x : α × α), rs[i]? = some x → i ≠ 0 → ∃ j, j < i ∧ (rs.map (·.1))[j]? = some x.2 ∧ x.1 ∈ o x.2
theorem Ahead.init (o : α → List α) (start : α) : Ahead o start [(start, start)] :=
  ⟨rfl, by simp, fun i x h n => by cases i with | zero => exact absurd rfl n | succ i => simp at h⟩
theorem Ahead.add {o : α → List α} {start : α} {rs : List (α × α)} (A : Ahead o start rs) {j : Nat} {x y : α} (hj : (rs.map (·.1))[j]? = some x) (hy : y ∈ o x) (hn : y ∉ rs.map (·.1)) : Ahead o start (rs ++ [(y, x)]) := by
  have hjl : j < rs.length := by have := (List.getElem?_eq_some_iff.mp hj).1; simpa using this
  refine ⟨?_, ?_, fun i z h n => ?_⟩
  · have := A.hd
    cases rs with
    | nil => cases this
    | cons a r => simpa using this
  · rw [List.map_append, List.nodup_append]
    exact ⟨A.nd, by simp, fun a ha b hb => by simp at hb; subst hb; intro e; subst e; exact hn ha⟩
  · by_cases hi : i < rs.length
    · rw [List.getElem?_append_left hi] at h
      obtain ⟨k, h1, h2, h3⟩ := A.par i z h n
      exact ⟨k, h1, by rw [List.map_append, List.getElem?_append_left (by rw [List.length_map]; omega)]; exact h2, h3⟩
    · have hi' : i = rs.length := by
        have := (List.getElem?_eq_some_iff.mp h).1
        simp at this; omega
      subst hi'
      simp at h
      subst h
      exact ⟨j, hjl, by rw [List.map_append, List.getElem?_append_left (by rw [List.length_map]; exact hjl)]; exact hj, hy⟩
theorem Ahead.reach {o : α → List α} {start : α} {rs : List (α × α)} (A : Ahead o start rs) : ∀ (i : Nat) (x : α), (rs.map (·.1))[i]? = some x → Reach o start x := by
  intro i
  induction i using Nat.strongRecOn with
  | ind i ih =>
    intro x h
    rw [List.getElem?_map] at h
    obtain ⟨z, hz, rfl⟩ := Option.map_eq_some_iff.mp h
    by_cases hi : i = 0
    · subst hi
      have := A.hd
      rw [List.head?_eq_getElem?, hz] at this
      cases this
      exact .refl
    · obtain ⟨j, h1, h2, h3⟩ := A.par i z hz hi
      exact .step (ih j h1 _ h2) h3
theorem Ahead.mem_iff {o : α → List α} {start : α} {rs : List (α × α)} (A : Ahead o start rs) (cl : ∀ x ∈ rs.map (·.1), ∀ y ∈ o x, y ∈ rs.map (·.1)) (x : α) : x ∈ rs.map (·.1) ↔ Reach o start x := by
  constructor
  · intro h
    obtain ⟨i, hi, e⟩ := List.getElem_of_mem h
    exact A.reach i x (by rw [List.getElem?_eq_getElem hi, e])
  · intro r
    induction r with
    | refl =>
      have := A.hd
      cases rs with
      | nil => cases this
      | cons a r => simp at this; subst this; simp
    | step _ hr ih => exact cl _ ih _ hr
end
theorem nodup_len {α : Type} [DecidableEq α] : ∀ {xs ys : List α}, xs.Nodup → (∀ x ∈ xs, x ∈ ys) → xs.length ≤ ys.length
  | [], _, _, _ => Nat.zero_le _
  | x :: xs, ys, hn, h => by
    rw [List.nodup_cons] at hn
    have hx := h x (by simp)
    have := nodup_len (xs := xs) (ys := ys.erase x) hn.2 fun y hy => by
      have ne : y ≠ x := by rintro rfl; exact hn.1 hy
      exact (List.mem_erase_of_ne ne).mpr (h y (by simp [hy]))
    rw [List.length_erase_of_mem hx] at this
    have hp : 0 < ys.length := List.length_pos_of_mem hx
    simp; omega
/-! two places, as far as they go alike -/
def cpl : Place → Place → Nat
  | a :: p, b :: q => if a = b then cpl p q + 1 else 0
  | _, _ => 0
theorem cpl_le : ∀ p q : Place, cpl p q ≤ min p.length q.length
  | [], q => by simp [cpl]
  | a :: p, [] => by simp [cpl]
  | a :: p, b :: q => by
    rw [cpl]; split
    · have := cpl_le p q; simp only [List.length_cons]; omega
    · omega
theorem cpl_at : ∀ (p q : Place) (i : Nat), i < cpl p q → p[i]? = q[i]?
  | [], q, i, h => by simp [cpl] at h
  | a :: p, [], i, h => by simp [cpl] at h
  | a :: p, b :: q, i, h => by
    rw [cpl] at h
    split at h
    · rename_i e
      subst e
      cases i with
      | zero => rfl
      | succ i => simpa using cpl_at p q i (by omega)
    · omega
theorem cpl_ne : ∀ (p q : Place), cpl p q < min p.length q.length → p[cpl p q]? ≠ q[cpl p q]?
  | [], q, h => by simp at h
  | a :: p, [], h => by simp at h
  | a :: p, b :: q, h => by
    rw [cpl] at h ⊢
    split at h
    · rename_i e
      subst e
      rw [if_pos rfl]
      have := cpl_ne p q (by simp only [List.length_cons] at h; omega)
      simpa using this
    · rename_i e
      rw [if_neg e]
      simpa using e
/-- whether two places are within unlike parts of one look -/
def apartB (t : Tm) (p q : Place) : Bool := if cpl p q = min p.length q.length then false else match atP t (p.take (cpl p q)) with | some u => decide (u.w = .look) | none => false
theorem atP_take {t u : Tm} : ∀ {p : Place}, atP t p = some u → ∀ n, ∃ v, atP t (p.take n) = some v := by
  intro p
  induction p generalizing t with
  | nil => intro h n; exact ⟨t, by simp [atP_nil]⟩
  | cons k p ih =>
    intro h n
    cases n with
    | zero => exact ⟨t, by simp [atP_nil]⟩
    | succ n =>
      obtain ⟨hk, y, e1, e2⟩ := atP_cons h
      obtain ⟨v, hv⟩ := ih e2 n
      exact ⟨v, by rw [List.take_succ_cons, atP, if_pos hk, e1]; exact hv⟩
theorem cpl_comm : ∀ p q : Place, cpl p q = cpl q p
  | [], [] => rfl
  | [], b :: q => by simp [cpl]
  | a :: p, [] => by simp [cpl]
  | a :: p, b :: q => by
    rw [cpl, cpl, cpl_comm p q]
    by_cases e : a = b
    · rw [if_pos e, if_pos e.symm]
    · rw [if_neg e, if_neg (Ne.symm e)]
/-- before, of two deeds -/
def outsL (es : List (Pt × Pt)) : Pt → List Pt := outs es
end Sw
namespace Sw
open PySem PySem.Spec PyProof.Rows L2 PySem.W
theorem unlock_keep {s sx : Sto} {ls : List Addr} {P : Addr → Prop} (h : ∀ e o, lockS s ls e = some o → P e → sx e = some o) : ∀ e o, s e = some o → P e → unlockS s sx ls e = some o := fun e o he hp => by
  have h1 := h e
  unfold lockS at h1
  unfold unlockS
  by_cases hm : e ∈ ls
  · rw [if_pos hm] at h1 ⊢
    rw [he] at h1 ⊢
    cases o <;> first | rfl | exact h1 _ rfl hp
  · rw [if_neg hm] at h1 ⊢
    exact h1 o he hp
theorem unlock_ne {s sx : Sto} {ls : List Addr} {a : Addr} (h : a ∉ ls) : unlockS s sx ls a = sx a := by unfold unlockS; rw [if_neg h]
theorem lock_ne {s : Sto} {ls : List Addr} {a : Addr} (h : a ∉ ls) : lockS s ls a = s a := by unfold lockS; rw [if_neg h]
theorem assocPut_new {α β : Type} [DecidableEq α] {m : List (α × β)} {x : α} {v : β} (h : assoc m x = none) : assocPut m x v = m ++ [(x, v)] := by unfold assocPut; rw [h]; rfl
theorem assoc_none_of {α β : Type} [DecidableEq α] {m : List (α × β)} {x : α} (h : x ∉ m.map (·.1)) : assoc m x = none := by
  cases z : assoc m x with
  | none => rfl
  | some v => exact absurd (List.mem_map.mpr ⟨_, assoc_mem z, rfl⟩) h
theorem assoc_iff {α β : Type} [DecidableEq α] {m : List (α × β)} {x : α} : (assoc m x).isSome = true ↔ x ∈ m.map (·.1) := by
  constructor
  · intro h; obtain ⟨v, e⟩ := Option.isSome_iff_exists.mp h; exact List.mem_map.mpr ⟨_, assoc_mem e, rfl⟩
  · intro h; obtain ⟨v, e⟩ := assoc_some h; rw [e]; rfl
theorem atI_mapN {α : Type} {f : α → DV} {xs : List α} {k : Nat} {x : α} (h : xs[k]? = some x) : L2.atI (xs.map f) (k : Int) = some (f x) := atI_nat (by rw [List.getElem?_map, h]; rfl)
theorem atI_mapI {α : Type} {f : α → DV} {xs : List α} {k : Int} (h0 : 0 ≤ k) (h1 : k < xs.length) : ∃ x, x ∈ xs ∧ xs[k.toNat]? = some x ∧ L2.atI (xs.map f) k = some (f x) := by
  obtain ⟨j, rfl⟩ := Int.eq_ofNat_of_zero_le h0
  have hj : j < xs.length := by omega
  exact ⟨xs[j], List.getElem_mem hj, by simp [hj], atI_nat (by rw [List.getElem?_map, List.getElem?_eq_getElem hj]; rfl)⟩
theorem atI_mapL {α : Type} {f : α → DV} {xs : List α} (h : xs ≠ []) : L2.atI (xs.map f) (-1) = some (f (xs.getLast h)) := by
  have hl : 0 < xs.length := List.length_pos_iff.mpr h
  unfold L2.atI
  have : ixN (xs.map f).length (-1) = some (xs.length - 1) := by
    unfold ixN
    rw [List.length_map]
    have h1 : ¬ (0 ≤ (-1 : Int)) := by decide
    simp only [h1, if_false]
    first
      | (rw [if_pos (by omega)]; congr 1; omega)
      | (split <;> first | (congr 1; omega) | omega)
  rw [this]
  simp only [Option.bind_some, List.getElem?_map]
  rw [List.getLast_eq_getElem, List.getElem?_eq_getElem (by omega)]
  rfl
theorem eqIs_bools {st : Sto} {a c : Addr} {bs cs : List Bool} {b : Bool} (ea : lstAt st a = some (bs.map DV.bl)) (ec : lstAt st c = some (cs.map DV.bl)) (hb : b = true ↔ bs = cs) : EqIs st (.ref a) (.ref c) b := by
  have dt : ∀ l : List Bool, Dats st (l.map DV.bl) (l.map PyData.bool) := fun l => by
    induction l with
    | nil => exact .nil
    | cons x r ih => exact .cons (.bl x) ih
  have sh : ∀ l : List Bool, SeqAt.shaped (.list (l.map PyData.bool)) = true := fun l => by
    have h1 : PyData.canLayAll0 (l.map PyData.bool) = true := by
      induction l with
      | nil => rw [List.map_nil, PyData.canLayAll0]
      | cons x r ih => rw [List.map_cons, PyData.canLayAll0, ih, PyData.canLay0]; rfl
    have h2 : PyData.depthAll (l.map PyData.bool) = 0 := by
      clear h1
      induction l with
      | nil => rw [List.map_nil, PyData.depthAll]
      | cons x r ih => rw [List.map_cons, PyData.depthAll, ih, PyData.depth]; rfl; all_goals exact fun _ h => nomatch h
    unfold SeqAt.shaped
    rw [PyData.canLay0, h1, PyData.depth, h2]; rfl
  refine ⟨_, _, .lst ea (dt bs), .lst ec (dt cs), sh bs, sh cs, ?_⟩
  rw [PyData.eqv]
  refine bool_iff ?_ hb
  clear hb ea ec
  induction bs generalizing cs with
  | nil => cases cs <;> simp [PyData.eqvAll]
  | cons x r ih =>
    cases cs with
    | nil => simp [PyData.eqvAll]
    | cons y q => rw [List.map_cons, List.map_cons, PyData.eqvAll, Bool.and_eq_true, ih, PyData.eqv]; simp
theorem cpl_take : ∀ p q : Place, p.take (cpl p q) = q.take (cpl p q)
  | [], q => by simp [cpl]
  | a :: p, [] => by simp [cpl]
  | a :: p, b :: q => by
    rw [cpl]; split
    · rename_i e; subst e; rw [List.take_succ_cons, List.take_succ_cons, cpl_take p q]
    · simp
theorem apart_comm (t : Tm) (p q : Place) : apartB t p q = apartB t q p := by
  unfold apartB
  rw [cpl_comm q p, cpl_take, Nat.min_comm]
end Sw

/-! dict(list of pairs), the keys tuples, all unlike. -/
namespace Sw
open PySem PySem.Spec PyProof.Rows L2 PySem.W
theorem storedAll_nodup {K : Type} [DecidableEq K] : ∀ (ps acc : List (K × Addr × Value)), ((acc ++ ps).map (·.1)).Nodup → storedAllH acc ps = acc ++ ps
  | [], acc, _ => by simp [storedAllH]
  | p :: r, acc, h => by
    have hn : atKey acc p.1 = none := by
      unfold atKey
      rw [Option.map_eq_none_iff, List.find?_eq_none]
      intro x hx
      simp only [decide_eq_true_eq]
      intro e
      rw [List.map_append, List.map_cons, List.nodup_append] at h
      exact h.2.2 _ (List.mem_map.mpr ⟨x, hx, rfl⟩) p.1 (by simp) e
    have e1 : storedH acc p.1 p.2.1 p.2.2 = acc ++ [p] := by unfold storedH; rw [hn]; rfl
    have ih := storedAll_nodup r (acc ++ [p]) (by simpa using h)
    show storedAllH (storedH acc p.1 p.2.1 p.2.2) r = _
    rw [e1, ih]; simp
section
variable {X : Cx} {E : XK} {e : Expr} {me : ME} {pos : Pos}
/-- pairs that lie as tuples: the pair's place, key, the key's place, value -/
abbrev PT4 := Addr × NestedKey × Addr × V
def rDictP (P : Program) (w : World) (K : PySem.W.Frag) : List V → Hp → VK → Prop := fun vs H Q => ∃ (a : Addr) (ts : List PT4), vs = [V.ref a] ∧ SqL K H a (ts.map fun t => V.ref t.1) ∧ (∀ t ∈ ts, SqT K H t.1 [.ref t.2.2.1, t.2.2.2] ∧ KeyAt K H t.2.1 t.2.2.1) ∧ (ts.map (·.2.1)).Nodup ∧
  ∀ p, (p == sysModules) = false → H p = none → Q (.ref p) (upd H p (.ext (NDk P w p (ts.map (·.2)))))
theorem refs_vals : ∀ {ps : List Addr} {us : List Value}, Vals (ps.map V.ref) us → us = ps.map Value.ref
  | [], us, r => by rw [List.map_nil] at r; cases r; rfl
  | p :: ps, us, r => by
    rw [List.map_cons] at r
    cases r with
    | cons h t => cases h; rw [List.map_cons, ← refs_vals t]
theorem pairs_heap {pins : List (Addr × Obj)} {σ : L2.St} {H : Hp} {s : Shared} (I : Inv X pins σ H s) : ∀ {ts : List PT4}, (∀ t ∈ ts, SqT X.K H t.1 [.ref t.2.2.1, t.2.2.2] ∧ KeyAt X.K H t.2.1 t.2.2.1) →
    ∃ xs : List (NestedKey × Addr × Value), Paired KX3 (ts.map (·.2)) xs ∧ ∀ (j : Nat) (x : NestedKey × Addr × Value), xs[j]? = some x → ∃ t, ts[j]? = some t ∧ IsTup s.heap t.1 #[.ref x.2.1, x.2.2] ∧ (nestedKind X.prog X.w).is s.heap x.1 x.2.1
  | [], _ => ⟨[], .nil, fun j x e => by simp at e⟩
  | t :: ts, h => by
    obtain ⟨xs, r, hp⟩ := pairs_heap I fun u hu => h u (List.mem_cons_of_mem _ hu)
    obtain ⟨h1, h2⟩ := h t List.mem_cons_self
    obtain ⟨its, rv, ht, _⟩ := I.tuple h1
    obtain ⟨u, y, ei, ru, ry⟩ := vals2 rv
    subst ei
    have ru' : u = Value.ref t.2.2.1 := ru
    subst ru'
    refine ⟨(t.2.1, t.2.2.1, y) :: xs, .cons ⟨rfl, rfl, ry⟩ r, fun j x e => ?_⟩
    cases j with
    | zero => simp at e; subst e; exact ⟨t, rfl, ht, h2.is I⟩
    | succ j =>
      obtain ⟨t', e1, e2, e3⟩ := hp j x (by simpa using e)
      exact ⟨t', by simpa using e1, e2, e3⟩
theorem keys_map {ks : List (NestedKey × Addr × V)} {xs : List (NestedKey × Addr × Value)} (h : Paired KX3 ks xs) : ks.map (·.1) = xs.map (·.1) := by
  induction h with
  | nil => rfl
  | cons r _ ih => rw [List.map_cons, List.map_cons, ih, r.1]
theorem cr_dictP (hc : X.calm = true) (hu : X.A.units + 65 < cLine) : CallR X (.type "dict") (rDictP X.prog X.w X.K) := by
  intro pins s σ H vs us Q I r h
  obtain ⟨a, ts, rfl, hq, hts, hnd, q⟩ := h
  rw [Vals.ref1 r]
  obtain ⟨its, rv, pl, hz⟩ := I.list hq
  rw [show (ts.map fun t => V.ref t.1) = (ts.map (·.1)).map V.ref by rw [List.map_map]; rfl] at rv
  have ei := refs_vals rv
  subst ei
  rw [List.length_map] at hz
  obtain ⟨xs, p1, hp⟩ := pairs_heap I hts
  have hlen : xs.length = ts.length := by have := paired_len p1; simpa using this.symm
  have hnx : (xs.map (·.1)).Nodup := by rw [← keys_map p1, List.map_map]; exact hnd
  obtain ⟨o, n, ho, hcl, hd, hdat⟩ := pl
  have sys : (s.heap.objs.size == sysModules) = false := beq_eq_false_iff_ne.mpr (Ne.symm (Nat.ne_of_lt I.big))
  have get1 : ∀ {α : Type} (l : List α) (f : α → Addr) (j : Nat) (t : α), l[j]? = some t → (l.map f).getD j 0 = f t := fun l f j t e => by simp [List.getD, e]
  have hit : PairItems s.heap (((ts.map (·.1)).map Value.ref).toArray) (fun j => (ts.map (·.1)).getD j 0) (xs.map fun x => (Value.ref x.2.1, x.2.2)) := by
    refine ⟨by simp [hlen], fun j k v e => ?_⟩
    rw [List.getElem?_map] at e
    obtain ⟨x, hx, e1⟩ := Option.map_eq_some_iff.mp e
    cases e1
    obtain ⟨t, t1, t2, t3⟩ := hp j x hx
    dsimp only
    rw [get1 ts (·.1) j t t1]
    exact ⟨by simp [t1], .inl t2⟩
  have hll : (xs.map fun x => (Value.ref x.2.1, x.2.2)).length = xs.length := List.length_map _
  refine call_dict_pairsH (knd := nestedKind X.prog X.w) (ps := xs) (PairArg.list a _ _ _) (I.ok.hd hc) (show X.A.units + 1 + 1 + 8 < cLine by omega) ⟨⟨o, n, ho, hcl, hd, hdat⟩, hit⟩ ⟨by rw [hll], fun i key v e => ?_⟩ (fun h' hk x hx => ?_) (by rw [hll]; omega) fun h' tk hm hk => ?_
  · have e' : (xs.map fun x => (Value.ref x.2.1, x.2.2))[i]? = some (key, v) := e
    rw [List.getElem?_map] at e'
    obtain ⟨x, hx, e1⟩ := Option.map_eq_some_iff.mp e'
    cases e1
    exact ⟨x.1, x.2.1, hx, rfl⟩
  · obtain ⟨j, hj, hx'⟩ := List.getElem_of_mem hx
    obtain ⟨t, t1, t2, t3⟩ := hp j x (by rw [List.getElem?_eq_getElem hj, hx'])
    exact nestedKind_stays.stays (fun b ob vs n e _ => hk b ob (Nat.ne_of_lt (Heap.lt_size e)) (by simp) e) t3
  · rw [storedAll_nodup xs [] (by simpa using hnx), List.nil_append] at hm
    exact ⟨.ref s.heap.objs.size, upd H s.heap.objs.size (.ext (NDk X.prog X.w s.heap.objs.size (ts.map (·.2)))), I.laid (t' := tk) (fun b ob e => hk b ob (by simp) e) (Nat.le_refl _) (ndk_ok p1 hm), rfl, q _ sys (I.hok.fresh (Nat.le_refl _))⟩
/-! by data -/
def pairsD : List DV → Option (List (DV × DV))
  | [] => some []
  | .tup [k, v] :: r => (pairsD r).map ((k, v) :: ·)
  | _ => none
def keysT : List (DV × DV) → Option (List NestedKey)
  | [] => some []
  | p :: r => match keyT p.1, keysT r with | some k, some ks => some (k :: ks) | _, _ => none
def dictPO (x : Option (List (DV × DV))) (st : Sto) (Q : DV → Sto → Prop) : Prop := match x with
  | some kvs => (∃ ks, keysT kvs = some ks ∧ ks.Nodup) ∧ ∀ p, st p = none → Q (.ref p) (put st p (.dic kvs))
  | none => False
def dictPL (x : Option (List DV)) (st : Sto) (Q : DV → Sto → Prop) : Prop := match x with | some ds => dictPO (pairsD ds) st Q | none => False
def dictPD : DC := fun ds st Q => match ds with | [.ref a] => dictPL (lstAt st a) st Q | _ => False
theorem pairs_pt {K : PySem.W.Frag} {H : Hp} : ∀ {ds : List DV} {vs : List V} {kvs : List (DV × DV)} {ks : List NestedKey}, DVs K H ds vs → pairsD ds = some kvs → keysT kvs = some ks → ∃ ts : List PT4, vs = ts.map (fun t => V.ref t.1) ∧ ts.map (·.2.1) = ks ∧ (∀ t ∈ ts, SqT K H t.1 [.ref t.2.2.1, t.2.2.2] ∧ KeyAt K H t.2.1 t.2.2.1) ∧ Paired (KP3 K H) kvs (ts.map (·.2))
  | [], _, kvs, ks, h, e, ek => by
    cases h; cases e; cases ek
    exact ⟨[], rfl, rfl, fun t h => (nomatch h), .nil⟩
  | d :: r, _, kvs, ks, .cons h hs, e, ek => by
    unfold pairsD at e
    split at e
    · rename_i heq; cases heq
    · rename_i k v r' heq
      cases heq
      obtain ⟨kr, er, rfl⟩ := Option.map_eq_some_iff.mp e
      unfold keysT at ek
      split at ek
      · rename_i key kss e1 e2
        cases ek
        obtain ⟨ts, f1, f2, f3, f4⟩ := pairs_pt hs er e2
        cases h with
        | tup hq hv =>
          cases hv with
          | cons rk rest =>
            cases rest with
            | cons rv rest =>
              cases rest
              obtain ⟨b, rfl, ka, e3, e4⟩ := keyT_at rk e1
              refine ⟨(_, key, b, _) :: ts, by rw [f1]; rfl, by rw [List.map_cons, f2], fun t ht => ?_, .cons ⟨e3, e4, rk, rv⟩ f4⟩
              rcases List.mem_cons.mp ht with rfl | ht
              · exact ⟨hq, ka⟩
              · exact f3 t ht
      · cases ek
    · cases e
theorem dc_dictP : DCal X (rDictP X.prog X.w X.K) dictPD := by
  intro ds vs st H Qd Q g r h k
  unfold dictPD at h
  split at h
  · rename_i a
    cases r with
    | cons r1 rs =>
      cases rs
      cases r1
      unfold dictPL at h
      split at h
      · rename_i es e
        unfold dictPO at h
        split at h
        · rename_i kvs e2
          obtain ⟨⟨ks, e3, e4⟩, h⟩ := h
          obtain ⟨xs, hq, hs⟩ := lstAt_sq g e
          obtain ⟨ts, f1, f2, f3, f4⟩ := pairs_pt hs e2 e3
          subst f1
          refine ⟨a, ts, rfl, hq, f3, by rw [f2]; exact e4, fun p sys hp => ?_⟩
          have tx : TupX X.K H (upd H p (.ext (NDk X.prog X.w p (ts.map (·.2))))) := tupX_new hp
          exact k _ _ _ _ (h p (g.free hp)) (.ref p) (g.new hp ⟨sys, _, upd_same, Paired.mapP f4 fun _ _ z => ⟨z.1, z.2.1, z.2.2.1.mono tx, z.2.2.2.mono tx⟩⟩) (Stp.new hp)
        · exact h.elim
      · exact h.elim
  · exact h.elim
theorem dictPD_r {a : Addr} {st : Sto} {Q : DV → Sto → Prop} : dictPD [.ref a] st Q = dictPL (lstAt st a) st Q := rfl
theorem dictPL_s {ds : List DV} {st : Sto} {Q : DV → Sto → Prop} : dictPL (some ds) st Q = dictPO (pairsD ds) st Q := rfl
theorem dictPO_s {kvs : List (DV × DV)} {st : Sto} {Q : DV → Sto → Prop} : dictPO (some kvs) st Q = ((∃ ks, keysT kvs = some ks ∧ ks.Nodup) ∧ ∀ p, st p = none → Q (.ref p) (put st p (.dic kvs))) := rfl
theorem pairsD_map {α : Type} (f g : α → DV) (xs : List α) : pairsD (xs.map fun x => .tup [f x, g x]) = some (xs.map fun x => (f x, g x)) := by
  induction xs with
  | nil => rfl
  | cons x r ih => rw [List.map_cons, pairsD, ih]; rfl
theorem keysT_dmap {α β : Type} [DecidableEq α] (E : KeyEnc α) (ve : β → DV) (m : List (α × β)) : keysT (dmap E ve m) = some (m.map fun p => E.key p.1) := by
  induction m with
  | nil => rfl
  | cons p r ih =>
    show keysT ((E.enc p.1, ve p.2) :: dmap E ve r) = _
    unfold keysT
    rw [E.isT, ih]; rfl
theorem keys_nodup {α β : Type} [DecidableEq α] (E : KeyEnc α) {m : List (α × β)} (h : (m.map (·.1)).Nodup) : (m.map fun p => E.key p.1).Nodup := by
  rw [show (m.map fun p => E.key p.1) = (m.map (·.1)).map E.key by rw [List.map_map]; rfl]
  rw [List.Nodup, List.pairwise_map]
  exact h.imp fun {a b} hab e => hab (E.inj _ _ e)
end
end Sw

/-! Promises at places around which no repr is under way; repr of data. -/
namespace Sw
open PySem PySem.Spec PyProof.Rows L2 PySem.W
abbrev Calm0 (A : Around) : Prop := A.guards = some []
structure FnG (P : Program) (w : World) (K : PySem.W.Frag) (mg : Str → Option Value) (base : Heap) (k : Nat) (f : Addr) (fd : FuncData) (ps : List Str) (sp : DSp) : Prop where
  len : ∀ vs H Q E, spOf P w K sp vs H Q E → vs.length = ps.length
  run : ∀ (A : Around) (out : List PySem.Env) (s : Shared) (H : Hp) (ar : Args) (us : List Value) (vs : List V) (Q : VK) (E : XK), Calm0 A → Room k A → Env0 P w K mg base A out s H → BindsTo s fd ar (ps.zip us) → Vals vs us → spOf P w K sp vs H Q E →
    codeAny (model P w) A (.call (.ref f) ar) (CR (CX P w) out P w H s Q E) s
theorem FnOk.toG {P : Program} {w : World} {K : PySem.W.Frag} {mg : Str → Option Value} {base : Heap} {k : Nat} {f : Addr} {fd : FuncData} {ps : List Str} {sp : DSp} (F : FnOk P w K mg base (CX P w) k f fd ps (spOf P w K sp)) : FnG P w K mg base k f fd ps sp :=
  ⟨F.len, fun A out s H ar us vs Q E _ hr e0 hb r h => F.run A out s H ar us vs Q E hr e0 hb r h⟩
/-- a def of the text by its body, asked where no repr is under way -/
theorem fnG_ok {P : Program} {w : World} {K : PySem.W.Frag} {mg : Str → Option Value} {base : Heap} {x : Str} {s : Stmt} {f : Addr} {fd : FuncData} {N ps : List Str} {k : Nat} {sp : DSp} {m : MS} (F : Fun K x x s f fd) (S : FnScope N ps (defScope s))
    (hb : ∀ (f : Addr) (cdv : Value) (A : Around) (outer : List PySem.Env) (s0 : Shared) (H : Hp) (E : XK), Room k (A.deeper (envOfC x (defScope s) s0.heap.objs.size f cdv)) → Calm0 (A.deeper (envOfC x (defScope s) s0.heap.objs.size f cdv)) → DSs (cxOf (CX P w) P w K mg base N x (defScope s) f cdv A outer s0 H E) E (defBody s) m)
    (hsp : ∀ ds st Qd W, sp ds st Qd W → ds.length = ps.length ∧ m W { nx := fun _ st' => Rt Qd .non st', rt := Rt Qd } (startD N ds) st) : FnG P w K mg base (k + 1) f fd ps sp := by
  obtain ⟨oc, od, kV, doc, pm, an, cdv, ct, osl, rfl, lk, hcd⟩ := F.ex
  have hlen : ∀ vs H Q E, spOf P w K sp vs H Q E → vs.length = ps.length := fun vs H Q E ⟨ds, st, Qd, W, a, _, c, _⟩ => by rw [← a.length]; exact (hsp ds st Qd W c).1
  refine ⟨hlen, fun A out s0 H ar us vs Q E gd hr e0 bn r h => ?_⟩
  have old : ∀ b o, base.get? b = some o → s0.heap.get? b = some o := fun b o e => (e0.bs b o e).1
  have KX : K.In s0.heap := e0.mod.kin.keeps old
  refine codeAny_call_function hr.depth (KX _ _ lk) rfl S.co S.gen rfl (PySem.W.codeRec_of KX hcd) (bn _ _ _ _ ?_)
  refine wpAny_newFunctionEnv_cells S.kind (fun y hy => (S.par y.1 (List.of_mem_zip hy).1).elim .inl fun q => .inr ⟨q, PySem.W.cellsFrom_some _ _ _ (.inl q)⟩) fun env he s1 nw => ?_
  subst he
  refine ⟨(e0.mod.nolimit.keeps old).keeps nw.toInCall.keep, codeAny_func ?_⟩
  have I := inv_start (CX := CX P w) (P := P) (w := w) (base := base) (mg := mg) (E := E) S hr.hd e0 (hlen _ _ _ _ h) r nw
  obtain ⟨ds, st, Qd, W, h1, h2, h3, h4, h5⟩ := h
  obtain ⟨t, pt, q⟩ := hb f cdv A out s0 H E (hr.deeper _) gd
  have hq := q W (startD N ds) _ st H { nx := fun _ st' => Rt Qd .non st', rt := Rt Qd } { nx := fun _ H' => Q .non H', rt := Q } ⟨startR h1, h2, h5⟩ (hsp ds st Qd W h3).2 ⟨fun ρ σ st' H' z S2 sp2 => (by
      obtain ⟨st2, z2, z3⟩ := z
      exact h4 _ st2 _ _ z3 .non (S2.g.sub z2) (sp2.sub z2)), fun d st' v H' z rd g sp2 => (by
      obtain ⟨st2, z2, z3⟩ := z
      exact h4 _ st2 _ _ z3 rd (g.sub z2) (sp2.sub z2)), fun _ _ _ _ z => z.elim, fun _ _ _ _ z => z.elim⟩
  refine wpAny_mono (pt.run [] s1 _ H _ I hq) (fun fl s2 z => ?_) fun e s2 z => z
  cases fl with
  | ret u => obtain ⟨v, σ2, H2, J, rv, qq⟩ := z; exact ⟨v, H2, J.os, J.bare, J.base, J.hok, rv, qq⟩
  | next => obtain ⟨σ2, H2, J, qq⟩ := z; exact ⟨V.non, H2, J.os, J.bare, J.base, J.hok, rfl, qq⟩
  | brk => obtain ⟨_, _, _, qq⟩ := z; exact qq.elim
  | cont => obtain ⟨_, _, _, qq⟩ := z; exact qq.elim
/-- a def that keeps its promise where no repr is under way -/
def CalG (P : Program) (w : World) (K : PySem.W.Frag) (mg : Str → Option Value) (base : Heap) (k : Nat) (x : Str) (ps : List Str) (sp : DSp) : Prop :=
  ∃ f fd, FnG P w K mg base k f fd ps sp ∧ mg x = some (.ref f) ∧ PySem.W.keepIn K (.ref f) = true ∧ Binds K fd ps []
theorem calG_ok {P : Program} {w : World} {K : PySem.W.Frag} {mg : Str → Option Value} {base : Heap} {x : Str} {s : Stmt} {N ps : List Str} {k : Nat} {sp : DSp} {m : MS} (D : Def K mg x s ps) (S : FnScope N ps (defScope s))
    (hb : ∀ (f : Addr) (cdv : Value) (A : Around) (outer : List PySem.Env) (s0 : Shared) (H : Hp) (E : XK), Room k (A.deeper (envOfC x (defScope s) s0.heap.objs.size f cdv)) → Calm0 (A.deeper (envOfC x (defScope s) s0.heap.objs.size f cdv)) → DSs (cxOf (CX P w) P w K mg base N x (defScope s) f cdv A outer s0 H E) E (defBody s) m)
    (hsp : ∀ ds st Qd W, sp ds st Qd W → ds.length = ps.length ∧ m W { nx := fun _ st' => Rt Qd .non st', rt := Rt Qd } (startD N ds) st) : CalG P w K mg base (k + 1) x ps sp := by
  obtain ⟨f, fd, F, a, b⟩ := D
  exact ⟨f, fd, fnG_ok F S hb hsp, a, F.kp, b⟩
section
variable {X : Cx} {E : XK} {e : Expr} {pos : Pos}
theorem de_cG {j k : Nat} {ps : List Str} {sp : DSp} {x : Str} {p : Pos} {es : List Expr} {ms : MA} (c : CalG X.prog X.w X.K X.mg X.base j x ps sp) (hr : Room k X.A) (hgd : Calm0 X.A) (hx : Passes (CX X.prog X.w) X E) (ha : DA X E (e :: es) ms) (hk : j ≤ k := by first | assumption | omega | decide) (hg : Gl X x := by rfl)
    (hdb : (x == ("__debug__" : Str)) = false := by decide) (he : starEach (e :: es) X.env = (false, eval e X.env) :: starEach es X.env := by rfl) (hpl : (backTo pos (starEach es X.env)).any (·.1) = false := by rfl) :
    DE X E (.Call (.Name x p) (e :: es) [] pos) (mCall sp ms) := by
  obtain ⟨f, fd, F, hm, kp, b⟩ := c
  obtain ⟨t, pt, q⟩ := ha
  refine ⟨tCall (spOf X.prog X.w X.K sp) [] E t, ⟨fun pins s σ H Q I h => ?_⟩, fun W ρ σ st H Qd Q S h k => ?_⟩
  · refine wpAny_Call_Name_kw (ld_glob I hg hm ?_ hdb)
    refine PySem.W.callWith_K (h₀ := X.base) I.ok.mod.kin kp (thn (pt.run pos pins s σ H _ I h) fun us s1 ⟨vs, H1, I1, r, z⟩ => ⟨I1.kIn, ?_⟩) he hpl
    have z : spOf X.prog X.w X.K sp (vs ++ []) H1 Q E := z
    rw [List.append_nil] at z
    have hl : us.length = ps.length := by rw [← r.length]; exact F.len _ _ _ _ z
    have bb := b s1 us I1.kIn (by rw [List.append_nil]; exact hl)
    rw [List.append_nil] at bb
    refine wpAny_call (codeAny_mono (F.run X.A X.stack s1 H1 ⟨us, []⟩ us vs Q E hgd (hr.mono hk) I1.env0 bb r z) fun rr s2 y => ?_)
    cases rr with
    | error e => exact hx pins σ H1 s1 e s2 I1 y
    | ok fl => cases fl with
      | ret u => exact I1.after y
      | _ => exact False.elim y
  · refine q W ρ σ st H _ _ S h fun ds st1 vs H1 h1 r1 g1 s1 => ?_
    exact ⟨ds, st1, Qd, W, by rw [List.append_nil]; exact r1, g1, h1, fun d st' v H' a b c e => k d st' v H' a b c (s1.trans e), (S.step g1 s1).x⟩
/-! ### repr -/
def rRepr (K : PySem.W.Frag) : List V → Hp → VK → Prop := fun vs H Q => ∃ (a : Addr) (d : PyData), vs = [V.ref a] ∧ Dp K H (.ref a) d ∧ d.canLay0 = true ∧ d.showable = true ∧ d.depth ≤ 40 ∧ d.shown.length ≤ sizeLine ∧ Q (.str d.shown) H
theorem cr_repr (hgd : Calm0 X.A) (hu : X.A.units + 65 < cLine) : CallR X (.builtin "repr") (rRepr X.K) := by
  intro pins s σ H vs us Q I r h
  obtain ⟨a, d, rfl, hd, hl, hs, hdp, hz, q⟩ := h
  rw [Vals.ref1 r]
  obtain ⟨as, rd⟩ := Dp.reads I d (.ref a) (.ref a) hd rfl
  exact repr_of_reads' rd hs (PyData.noDict_hsm (PyData.hasDict_of_canLay d hl)) hgd (by omega) (fun _ _ e => e) (fun h' u tk k => ⟨.str d.shown, H, I.kept (t' := tk) k, ⟨u, rfl⟩, q⟩) hz
def reprOk (d : PyData) : Prop := d.canLay0 = true ∧ d.showable = true ∧ d.depth ≤ 40 ∧ d.shown.length ≤ sizeLine
def reprD : DC := fun ds st Q => match ds with
  | [.ref a] => ∃ d, Dat st (.ref a) d ∧ reprOk d ∧ Q (.str d.shown) st
  | [.tup es] => ∃ d, Dat st (.tup es) d ∧ reprOk d ∧ Q (.str d.shown) st
  | _ => False
theorem dc_repr : DCal X (rRepr X.K) reprD := by
  intro ds vs st H Qd Q g r h k
  unfold reprD at h
  split at h
  · rename_i a
    cases r with
    | cons r1 rs =>
      cases rs
      obtain ⟨d, h1, ⟨h2, h3, h4, h5⟩, h6⟩ := h
      have z := h1.dp g r1
      cases r1
      exact ⟨a, d, rfl, z, h2, h3, h4, h5, k.at g h6 (.str _)⟩
  · rename_i es
    cases r with
    | cons r1 rs =>
      cases rs
      obtain ⟨d, h1, ⟨h2, h3, h4, h5⟩, h6⟩ := h
      have z := h1.dp g r1
      cases r1
      exact ⟨_, d, rfl, z, h2, h3, h4, h5, k.at g h6 (.str _)⟩
  · exact h.elim
theorem reprD_r {a : Addr} {st : Sto} {Q : DV → Sto → Prop} : reprD [.ref a] st Q = ∃ d, Dat st (.ref a) d ∧ reprOk d ∧ Q (.str d.shown) st := rfl
theorem reprD_t {es : List DV} {st : Sto} {Q : DV → Sto → Prop} : reprD [.tup es] st Q = ∃ d, Dat st (.tup es) d ∧ reprOk d ∧ Q (.str d.shown) st := rfl
end
/-! how long a text is -/
mutual
def cst : PyData → Nat
  | .none => 5
  | .bool _ => 5
  | .int i => i.natAbs + 2
  | .str x => (reprText x).length
  | .list xs => cstAll xs + 2
  | .tuple xs => cstAll xs + 4
  | .dict _ => 0
def cstAll : List PyData → Nat
  | [] => 0
  | x :: xs => cst x + 2 + cstAll xs
end
theorem piled_eq : ∀ xs : List PyData, piled (PyData.shownAll xs) = (xs.map fun d => d.shown.length + 2).sum
  | [] => rfl
  | x :: r => by rw [PyData.shownAll, piled_cons, piled_eq r]; simp
theorem textFrom_le : ∀ (ts : List Str) (k : Nat) (acc : Str), (textFrom k acc ts).length ≤ acc.length + piled ts
  | [], k, acc => by show acc.length ≤ acc.length + 0; omega
  | t :: r, k, acc => by
    have h := textFrom_le r (k + 1) (acc ++ (if k > 0 then ", " else "" : String) ++ t)
    have e : (acc ++ (if k > 0 then ", " else "" : String) ++ t).length ≤ acc.length + 2 + t.length := by
      rw [strLen_append, strLen_append]
      split
      · exact Nat.le_refl _
      · show acc.length + 0 + t.length ≤ _; omega
    rw [piled_cons]
    have e2 : (textFrom k acc (t :: r)).length = (textFrom (k + 1) (acc ++ (if k > 0 then ", " else "" : String) ++ t) r).length := rfl
    omega
mutual
theorem shown_len : ∀ d : PyData, d.canLay0 = true → d.shown.length ≤ cst d
  | .none, _ => by rw [PyData.shown, cst]; decide
  | .bool b, _ => by rw [PyData.shown, cst]; cases b <;> decide
  | .int i, _ => by
    rw [PyData.shown, cst]
    have := len_str_of_int i
    omega
  | .str x, _ => by rw [PyData.shown, cst]; exact Nat.le_refl _
  | .list xs, h => by
    rw [PyData.canLay0] at h
    rw [PyData.shown, cst]
    have h1 := shownAll_len xs h
    have h2 := textFrom_le (PyData.shownAll xs) 0 "["
    unfold listText
    rw [strLen_append]
    have e1 : (Str.ofString "[").length = 1 := rfl
    have e2 : (Str.ofString "]").length = 1 := rfl
    omega
  | .tuple xs, h => by
    rw [PyData.canLay0] at h
    rw [PyData.shown, cst]
    have h1 := shownAll_len xs h
    unfold tupleText
    rw [strLen_append, strLen_append]
    have e1 : (Str.ofString "(").length = 1 := rfl
    have e2 : (Str.ofString (if (PyData.shownAll xs).length == 1 then ",)" else ")")).length ≤ 2 := by split <;> decide
    have e3 : (Str.join ", " (PyData.shownAll xs)).length ≤ piled (PyData.shownAll xs) := by
      by_cases hn : PyData.shownAll xs = []
      · rw [hn]; exact Nat.le_refl _
      · have := join_length_add (PyData.shownAll xs) hn; omega
    omega
  | .dict _, h => by rw [PyData.canLay0] at h; cases h
theorem shownAll_len : ∀ xs : List PyData, PyData.canLayAll0 xs = true → piled (PyData.shownAll xs) ≤ cstAll xs
  | [], _ => by rw [PyData.shownAll, cstAll]; exact Nat.le_refl _
  | x :: r, h => by
    rw [PyData.canLayAll0, Bool.and_eq_true] at h
    rw [PyData.shownAll, piled_cons, cstAll]
    have h1 := shown_len x h.1
    have h2 := shownAll_len r h.2
    omega
end
theorem cstAll_le {xs : List PyData} {n : Nat} (h : ∀ x ∈ xs, cst x ≤ n) : cstAll xs ≤ (n + 2) * xs.length := by
  induction xs with
  | nil => rw [cstAll]; exact Nat.zero_le _
  | cons x r ih =>
    rw [cstAll, List.length_cons, Nat.mul_succ]
    have := h x (by simp)
    have := ih fun y hy => h y (by simp [hy])
    omega
theorem cst_ints {ns : List Int} {n : Nat} (h : ∀ i ∈ ns, i.natAbs ≤ n) : cst (.tuple (ns.map .int)) ≤ (n + 4) * ns.length + 4 := by
  rw [cst]
  have := cstAll_le (xs := ns.map PyData.int) (n := n + 2) fun x hx => by
    obtain ⟨i, hi, rfl⟩ := List.mem_map.mp hx
    rw [cst]; have := h i hi; omega
  rw [List.length_map, show n + 2 + 2 = n + 4 from rfl] at this
  omega
/-! the end, where law asks repr -/
theorem lawG_call {P : Program} {w : World} {K : PySem.W.Frag} {mg mb : Str → Option Value} {k : Nat} {fa a : Addr} {fd : FuncData} {x : Str} {sp : DSp} {s1 : Shared} {vs : List Value} {ns : List Int} (KX : K.In s1.heap) (hns : s1.heap.Ns mainGlobals mg) (hb : s1.heap.Ns builtinsNs mb)
    (hbb : ∀ x : Str, x ≠ "__name__" → mb x = bootBuiltins x) (hlim : s1.heap.NoLimit) (hg : s1.gens = #[]) (ha : s1.heap.get? a = some { cls := .type "list", data := .seq vs.toArray }) (hi : IntsAre vs ns) (hl : ns.length ≤ sizeLine) (hk : K.lookup a = none) (hr : Room k callerA)
    (F : ∀ base : Heap, K.In base → base.Ns mainGlobals mg → FnG P w K mg base k fa fd [x] sp) (hbind : ∀ (s : Shared) (u : Value), BindsTo s fd ⟨[u], []⟩ [(x, u)])
    (hsp : ∀ H : Hp, SqL K H a (ns.map V.int) → spOf P w K sp [.ref a] H (fun v _ => v = .bl true) fun _ _ _ => False) :
    codeAny (model P w) callerA (.call (.ref fa) ⟨[.ref a], []⟩) (fun r s2 => r = .ok (.ret (.bool true)) ∧ OldK s1.heap s2.heap ∧ s2.os = s1.os ∧ AllBare s2.gens) s1 := by
  have rv := vals_ints hi
  let ob : Obj := { cls := .type "list", data := .seq vs.toArray }
  let H : Hp := fun b => if b = a then some (.frz ob (.lst (ns.map V.int))) else none
  have Ha : H a = some (.frz ob (.lst (ns.map V.int))) := if_pos rfl
  have Hn : ∀ b, b ≠ a → H b = none := fun b n => if_neg n
  have hok : HOk P w H s1.heap := fun b u z => by
    by_cases e : b = a
    · subst e; rw [Ha] at z; cases z
      exact ⟨ha, by rw [List.length_map]; exact hl, vs, _, rv, ha⟩
    · rw [Hn b e] at z; cases z
  have keep : ∀ {b : Addr} {o : Obj}, s1.heap.get? b = some o → b ≠ a → (hidT s1.heap H).get? b = some o := fun e n => hidT_get e (Hn _ n)
  have notA : ∀ {b : Addr} {o : Obj} {es : Array DictEntry} {ep : Nat}, s1.heap.get? b = some o → o.data = .dict es ep → b ≠ a := fun e d => by
    rintro rfl
    rw [ha] at e; cases e; cases d
  have nsK : ∀ {b : Addr} {m : Str → Option Value}, s1.heap.Ns b m → (hidT s1.heap H).Ns b m := fun ⟨o, es, ep, e, d, r⟩ => ⟨o, es, ep, keep e (notA e d), d, r⟩
  have hKb : K.In (hidT s1.heap H) := fun b o e => keep (KX b o e) (by rintro rfl; rw [hk] at e; cases e)
  have md : Mod K mg (hidT s1.heap H) := ⟨hKb, nsK hns, ⟨mb, nsK hb, hbb⟩, let ⟨mc, h1, h2⟩ := hlim; ⟨mc, nsK h1, h2⟩⟩
  have e0 : Env0 P w K mg (hidT s1.heap H) callerA [] s1 H := ⟨rfl, md, fun b o e => of_hidT e, Nat.le_of_eq (hidT_size _ _), trivial, fun b hb => absurd (show b ∈ ([] : List Addr) from hb) (by simp), hok, .of_eq hg⟩
  refine codeAny_mono ((F _ hKb (nsK hns)).run callerA [] s1 H ⟨[.ref a], []⟩ [.ref a] [.ref a] _ _ rfl hr e0 (hbind s1 (.ref a)) (.cons rfl .nil) (hsp H (.inl (.inr ⟨ob, Ha⟩)))) fun r s2 h => ?_
  cases r with
  | error e => obtain ⟨_, _, _, _, _, _, _, _, _, _, _, _, z⟩ := h; exact z.elim
  | ok fl => cases fl with
    | ret u =>
      obtain ⟨v, H2, os, bare, un, hok2, rr, q⟩ := h
      have q' : v = .bl true := q
      subst q'
      have ru : u = Value.bool true := rr
      subst ru
      refine ⟨rfl, OldK.of_keep fun b o e => ?_, os, bare⟩
      by_cases n : b = a
      · subst n
        obtain ⟨e1, _⟩ := hok b _ Ha
        obtain ⟨e2, _⟩ := hok2 b _ (un.frzs b ob _ Ha)
        rw [e] at e1; cases e1
        exact e2
      · exact un.keep b o e (Hn b n) (fun z => absurd (show b ∈ ([] : List Addr) from z) (by simp)) (by simp)
    | _ => exact False.elim h
theorem swG_walk {l : PySem.W.OpenLaw} {q : Program} {loose : List Str} {XP : (Str → Option Value) → Heap → Prop} {YP : World → Heap → Prop} {d : DefRec} {K : Params → PySem.W.Frag} {k : Nat} (hn : l.most = some 63) (hdf : d.params.defaults = [])
    (hY : ∀ (w : World) (h : Heap), YP w h → (K w.params).In h) (hr : Room k callerA) (hL : ∀ P : Params, noL (K P) = true)
    (F : ∀ (w : World) (mg : Str → Option Value) (fa : Addr) (h : Heap), (K w.params).In h → h.Ns mainGlobals mg → mg d.name = some (.ref fa) →
      ∃ fd : FuncData, (∀ (s : Shared) (u : Value), BindsTo s fd ⟨[u], []⟩ [("script", u)]) ∧ ∀ base : Heap, (K w.params).In base → base.Ns mainGlobals mg → FnG l.prog w (K w.params) mg base k fa fd ["script"] sp_law) :
    PySem.W.WalkO q loose XP YP l.row.toRowW d [] (fun f vs => PySem.call f vs) := by
  refine Att.attach_call hn hdf fun w s0 s1 mg mb fa o pm cd doc a vs ns G Y ho hd hcd hmg hobj hints hlen hg => ?_
  have KX := hY w _ Y
  have hK : (K w.params).lookup a = none := by
    cases z : (K w.params).lookup a with
    | none => rfl
    | some u =>
      have e := KX a u z
      rw [hobj] at e
      cases e
      exact (noL_no (hL w.params) z rfl).elim
  obtain ⟨fd, hb, hF⟩ := F w mg fa _ KX G.T.g hmg
  exact lawG_call KX G.T.g G.T.b G.T.builtins G.T.nolimit hg hobj hints (Nat.le_trans hlen (by decide)) hK hr hF hb (fun H hS => law_asked hlen hK hS)
end Sw

/-! What is through and what is open, given what is done and where looks went. -/
namespace Sw
open PySem PySem.Spec PyProof.Rows L2 PySem.W
/-! places behind all within them -/
def postLt : Place → Place → Bool
  | [], _ => false
  | _ :: _, [] => true
  | x :: xs, y :: ys => decide (x < y) || (decide (x = y) && postLt xs ys)
theorem postLt_irrefl : ∀ p : Place, postLt p p = false
  | [] => rfl
  | x :: xs => by rw [postLt, postLt_irrefl xs]; simp
theorem postLt_trans : ∀ {p q r : Place}, postLt p q = true → postLt q r = true → postLt p r = true
  | [], q, r, h, _ => by rw [postLt] at h; cases h
  | x :: xs, [], r, _, h => by cases r <;> (rw [postLt] at h; cases h)
  | x :: xs, y :: ys, [], _, _ => rfl
  | x :: xs, y :: ys, z :: zs, h, h' => by
    simp only [postLt, Bool.or_eq_true, Bool.and_eq_true, decide_eq_true_eq] at h h' ⊢
    rcases h with h | ⟨rfl, h⟩
    · rcases h' with h' | ⟨rfl, h'⟩
      · exact .inl (by omega)
      · exact .inl h
    · rcases h' with h' | ⟨rfl, h'⟩
      · exact .inl h'
      · exact .inr ⟨rfl, postLt_trans h h'⟩
theorem postLt_pre : ∀ (r p q : Place), postLt (r ++ p) (r ++ q) = postLt p q
  | [], p, q => rfl
  | x :: xs, p, q => by rw [List.cons_append, List.cons_append, postLt, postLt_pre xs p q]; simp
theorem postLt_kid (p : Place) (k : Int) (q : Place) : postLt (p ++ (k :: q)) p = true := by
  have := postLt_pre p (k :: q) []
  rw [List.append_nil] at this
  rw [this]; rfl
theorem postLt_left (r : Place) {i j : Int} (h : i < j) (p q : Place) : postLt (r ++ (i :: p)) (r ++ (j :: q)) = true := by
  rw [postLt_pre, postLt]; simp [h]
def rank (t : Tm) (p : Place) : Nat := ((placesIn t []).filter fun q => postLt q p).length
theorem rank_lt {t : Tm} {p q : Place} (hq : q ∈ placesIn t []) (h : postLt q p = true) : rank t q < rank t p := by
  unfold rank
  have hsub : ∀ x ∈ placesIn t [], postLt x q = true → postLt x p = true := fun x _ hx => postLt_trans hx h
  have hni := postLt_irrefl q
  generalize placesIn t [] = l at hq hsub
  induction l with
  | nil => cases hq
  | cons y r ih =>
    rw [List.filter_cons, List.filter_cons]
    have hs := hsub y (by simp)
    rcases List.mem_cons.mp hq with rfl | hq
    · rw [if_neg (by rw [hni]; simp), if_pos h, List.length_cons]
      have : (r.filter fun x => postLt x q).length ≤ (r.filter fun x => postLt x p).length := by
        clear ih hs
        induction r with
        | nil => exact Nat.le_refl _
        | cons z r ih =>
          have ih' := ih (by simp) (fun x hx => hsub x (by
            rcases List.mem_cons.mp hx with rfl | hx
            · simp
            · simp [hx]))
          rw [List.filter_cons, List.filter_cons]
          have hz := hsub z (by simp)
          by_cases h1 : postLt z q = true
          · rw [if_pos h1, if_pos (hz h1)]; simp; omega
          · rw [if_neg h1]; split
            · simp; omega
            · exact ih'
      omega
    · have ih' := ih hq fun x hx => hsub x (by simp [hx])
      by_cases h1 : postLt y q = true
      · rw [if_pos h1, if_pos (hs h1)]; simp; omega
      · rw [if_neg h1]; split
        · simp; omega
        · exact ih'
theorem rank_size {t : Tm} {p : Place} (hp : p ∈ placesIn t []) : rank t p < size t := by
  unfold rank
  rw [← placesIn_length t []]
  generalize placesIn t [] = l at hp
  induction l with
  | nil => cases hp
  | cons y r ih =>
    rw [List.filter_cons, List.length_cons]
    have hle := List.length_filter_le (fun q => postLt q p) r
    rcases List.mem_cons.mp hp with rfl | hp
    · rw [if_neg (by rw [postLt_irrefl]; simp)]; omega
    · have := ih hp
      split
      · rw [List.length_cons]; exact Nat.succ_lt_succ this
      · exact Nat.lt_succ_of_lt this
/-! a wait and what it is for -/
mutual
theorem waits_left : ∀ (t : Tm) (ar : List Int), Ok t → waits t ar = true → ∀ (p : Place) (u : Tm), atP t p = some u → u.w = .wait → ∀ h ∈ u.ns, h ∈ ar ∨ ∃ (r : Place) (i j : Nat) (q : Place) (v : Tm), p = r ++ ((j : Int) :: q) ∧ i < j ∧ atP t (kid r i) = some v ∧ v.w = .lend ∧ h ∈ v.ns
  | .mk w ns ps, ar, ok, hw, p, u, hu, hwt, h, hh => by
    rw [waits] at hw
    cases p with
    | nil =>
      rw [atP_nil] at hu
      cases hu
      have e : w = .wait := hwt
      rw [if_pos e, List.all_eq_true] at hw
      exact .inl (of_decide_eq_true (hw h hh))
    | cons k p =>
      obtain ⟨hk, v, e1, e2⟩ := atP_cons hu
      by_cases e : w = .wait
      · have e3 : ps = [] := ok.2.1 (by rw [e]; rfl)
        subst e3
        simp [Tm.ps] at e1
      · rw [if_neg e] at hw
        have ek : k = ((k.toNat : Nat) : Int) := by omega
        rcases waitsL_left (decide (w = .row)) ps _ ok.2.2 hw k.toNat v e1 p u e2 hwt h hh with z | ⟨i, v', hi, z1, z2, z3⟩ | ⟨r, i, j, q, v', z1, z2, z3, z4, z5⟩
        · by_cases el : w = .look
          · rw [if_pos el] at z; cases z
          · rw [if_neg el] at z; exact .inl z
        · refine .inr ⟨[], i, k.toNat, p, v', by rw [← ek]; rfl, hi, ?_, z2, z3⟩
          show atP (.mk w ns ps) ((i : Int) :: []) = some v'
          rw [atP_nat (u := v') z1]; exact atP_nil v'
        · refine .inr ⟨k :: r, i, j, q, v', by rw [z1]; rfl, z2, ?_, z4, z5⟩
          show atP (.mk w ns ps) (k :: (r ++ [(i : Int)])) = some v'
          rw [atP, if_pos hk, e1]
          exact z3
theorem waitsL_left : ∀ (b : Bool) (ts : List Tm) (ar : List Int), OkL ts → waitsL b ts ar = true → ∀ (k : Nat) (v : Tm), ts[k]? = some v → ∀ (p : Place) (u : Tm), atP v p = some u → u.w = .wait → ∀ h ∈ u.ns,
    h ∈ ar ∨ (∃ (i : Nat) (v' : Tm), i < k ∧ ts[i]? = some v' ∧ v'.w = .lend ∧ h ∈ v'.ns) ∨ ∃ (r : Place) (i j : Nat) (q : Place) (v' : Tm), p = r ++ ((j : Int) :: q) ∧ i < j ∧ atP v (kid r i) = some v' ∧ v'.w = .lend ∧ h ∈ v'.ns
  | b, [], ar, ok, hw, k, v, e, p, u, hu, hwt, h, hh => by simp at e
  | b, t :: r, ar, ok, hw, k, v, e, p, u, hu, hwt, h, hh => by
    rw [waitsL, Bool.and_eq_true] at hw
    cases k with
    | zero =>
      simp at e
      subst e
      rcases waits_left t ar ok.1 hw.1 p u hu hwt h hh with z | z
      · exact .inl z
      · exact .inr (.inr z)
    | succ k =>
      simp at e
      rcases waitsL_left b r _ ok.2 hw.2 k v e p u hu hwt h hh with z | ⟨i, v', z0, z1, z2, z3⟩ | z
      · by_cases c : (b && decide (t.w = .lend)) = true
        · rw [if_pos c, List.mem_append] at z
          rcases z with z | z
          · exact .inl z
          · rw [Bool.and_eq_true, decide_eq_true_eq] at c
            exact .inr (.inl ⟨0, t, by omega, rfl, c.2, z⟩)
        · rw [if_neg c] at z; exact .inl z
      · exact .inr (.inl ⟨i + 1, v', by omega, by simpa using z1, z2, z3⟩)
      · exact .inr (.inr z)
end
mutual
theorem lent_eq {t : Tm} {c : Int} : ∀ (u : Tm) (p : Place), Made c u → atP t p = some u → ((placesIn u p).filterMap (lendAt t)).map (·.1) = lent u
  | .mk w ns ps, p, m, h => by
    rw [placesIn, lent, List.filterMap_cons]
    have hl := lentL_eq ps 0 p m.2.2 fun i v hv => by rw [Nat.zero_add]; exact kid_at h hv
    by_cases hw : w = .lend
    · obtain ⟨x, u, e⟩ := lend_shape (v := .mk w ns ps) m hw
      cases e
      have e2 : lendAt t p = some (x, kid p 0) := by unfold lendAt; rw [h]; rfl
      rw [e2, if_pos rfl]
      simp only [List.map_cons]
      rw [hl]; rfl
    · have e2 : lendAt t p = none := by unfold lendAt; rw [h]; exact if_neg hw
      rw [e2, if_neg hw]
      simpa using hl
theorem lentL_eq {t : Tm} {c : Int} : ∀ (us : List Tm) (k : Nat) (p : Place), MadeL c us → (∀ (i : Nat) v, us[i]? = some v → atP t (kid p (k + i)) = some v) → ((placesL us k p).filterMap (lendAt t)).map (·.1) = lentL us
  | [], _, _, _, _ => rfl
  | u :: r, k, p, m, h => by
    rw [placesL, lentL, List.filterMap_append, List.map_append]
    have h1 := lent_eq u (p ++ [(k : Int)]) m.1 (by have := h 0 u rfl; exact this)
    have h2 := lentL_eq r (k + 1) p m.2 fun i v hv => by
      have := h (i + 1) v (by simpa using hv)
      rw [show k + 1 + i = k + (i + 1) by omega]; exact this
    rw [h1, h2]
end
theorem lentM_keys {c : Int} {t : Tm} (bk : Bk c t) : (lentM t).map (·.1) = lent t := lent_eq t [] bk.made (atP_nil t)
/-! through -/
section
variable (t : Tm) (ln : Int → Place) (lk : Place → Option Int)
def thr : Nat → Place → Bool
  | 0, _ => false
  | n + 1, p => match atP t p with
    | none => false
    | some u => match u.w with
      | .look => (match lk p with | none => false | some k => thr n (p ++ [k]))
      | .wait => u.ns.all fun h => thr n (ln h)
      | .lend => true
      | .row => (List.range u.ps.length).all fun k => thr n (kid p k)
      | .both => (List.range u.ps.length).all fun k => thr n (kid p k)
      | _ => (lk p).isSome
/-- where waits are for comes ahead -/
def LnOk : Prop := ∀ p u h, atP t p = some u → u.w = .wait → h ∈ u.ns → ln h ∈ placesIn t [] ∧ postLt (ln h) p = true
variable {t ln lk}
theorem thr_none {p : Place} (h : atP t p = none) : ∀ n, thr t ln lk n p = false
  | 0 => rfl
  | n + 1 => by unfold thr; rw [h]
theorem thr_step (hl : LnOk t ln) {n m : Nat} {p : Place} {u : Tm} (hu : atP t p = some u) (ih : ∀ q ∈ placesIn t [], rank t q < rank t p → thr t ln lk n q = thr t ln lk m q) : thr t ln lk (n + 1) p = thr t ln lk (m + 1) p := by
  have kidc : ∀ k : Int, thr t ln lk n (p ++ [k]) = thr t ln lk m (p ++ [k]) := fun k => by
    cases hk : atP t (p ++ [k]) with
    | none => rw [thr_none hk, thr_none hk]
    | some v => exact ih _ (mem_places0.mpr ⟨v, hk⟩) (rank_lt (mem_places0.mpr ⟨v, hk⟩) (postLt_kid p k []))
  unfold thr
  rw [hu]
  simp only
  cases hw : u.w <;> simp only
  · cases lk p with
    | none => rfl
    | some k => exact kidc k
  · congr 1; funext k; exact kidc k
  · congr 1; funext k; exact kidc k
  · rw [Bool.eq_iff_iff, List.all_eq_true, List.all_eq_true]
    have : ∀ h ∈ u.ns, thr t ln lk n (ln h) = thr t ln lk m (ln h) := fun h hh => by
      obtain ⟨h1, h2⟩ := hl p u h hu hw hh
      exact ih _ h1 (rank_lt h1 h2)
    exact ⟨fun z h hh => by rw [← this h hh]; exact z h hh, fun z h hh => by rw [this h hh]; exact z h hh⟩
theorem thr_stable (hl : LnOk t ln) : ∀ (r : Nat) (p : Place), p ∈ placesIn t [] → rank t p = r → ∀ n m, r < n → r < m → thr t ln lk n p = thr t ln lk m p := by
  intro r
  induction r using Nat.strongRecOn with
  | ind r ih =>
    intro p hp hr n m hn hm
    obtain ⟨u, hu⟩ := mem_places0.mp hp
    cases n with
    | zero => omega
    | succ n =>
      cases m with
      | zero => omega
      | succ m => exact thr_step hl hu fun q hq hlt => ih (rank t q) (by omega) q hq rfl n m (by omega) (by omega)
end
def Thr (t : Tm) (ln : Int → Place) (lk : Place → Option Int) (p : Place) : Bool := thr t ln lk (size t) p
theorem Thr_of {t : Tm} {ln : Int → Place} {lk : Place → Option Int} (hl : LnOk t ln) {p : Place} (hp : p ∈ placesIn t []) {n : Nat} (hn : rank t p < n) : thr t ln lk n p = Thr t ln lk p := thr_stable hl _ p hp rfl _ _ hn (rank_size hp)
/-- by its parts -/
theorem Thr_eq {t : Tm} {ln : Int → Place} {lk : Place → Option Int} (hl : LnOk t ln) {p : Place} {u : Tm} (hu : atP t p = some u) : Thr t ln lk p = (match u.w with
      | .look => (match lk p with | none => false | some k => Thr t ln lk (p ++ [k]))
      | .wait => u.ns.all fun h => Thr t ln lk (ln h)
      | .lend => true
      | .row => (List.range u.ps.length).all fun k => Thr t ln lk (kid p k)
      | .both => (List.range u.ps.length).all fun k => Thr t ln lk (kid p k)
      | _ => (lk p).isSome) := by
  have hp : p ∈ placesIn t [] := mem_places0.mpr ⟨u, hu⟩
  have e : Thr t ln lk p = thr t ln lk (size t + 1) p := (Thr_of hl hp (Nat.lt_succ_of_lt (rank_size hp))).symm
  rw [e]
  unfold thr
  rw [hu]
  rfl
/-! open -/
mutual
def opn (T : Place → Bool) (lk : Place → Option Int) : Tm → Place → List Place
  | .mk w _ ps, p => match w with
    | .look => (match lk p with | none => [p] | some k => opnPick T lk ps 0 k p)
    | .lend => opnAll T lk ps 0 p
    | .wait => []
    | .both => opnAll T lk ps 0 p
    | .row => opnRow T lk ps 0 p
    | .set => if (lk p).isSome then [] else [p]
    | .add => if (lk p).isSome then [] else [p]
    | .copy => if (lk p).isSome then [] else [p]
def opnAll (T : Place → Bool) (lk : Place → Option Int) : List Tm → Nat → Place → List Place
  | [], _, _ => []
  | u :: r, i, p => opn T lk u (kid p i) ++ opnAll T lk r (i + 1) p
def opnRow (T : Place → Bool) (lk : Place → Option Int) : List Tm → Nat → Place → List Place
  | [], _, _ => []
  | u :: r, i, p => opn T lk u (kid p i) ++ (if T (kid p i) = true then opnRow T lk r (i + 1) p else [])
def opnPick (T : Place → Bool) (lk : Place → Option Int) : List Tm → Nat → Int → Place → List Place
  | [], _, _, _ => []
  | u :: r, i, k, p => if (i : Int) = k then opn T lk u (kid p i) else opnPick T lk r (i + 1) k p
end
mutual
theorem opn_mem {T : Place → Bool} {lk : Place → Option Int} : ∀ (u : Tm) (p : Place), ∀ x ∈ opn T lk u p, ∃ q v, x = p ++ q ∧ atP u q = some v ∧ v.w.deed = true ∧ lk x = none
  | .mk w ns ps, p, x, h => by
    have self : ∀ (hw : w.deed = true), lk p = none → x = p → ∃ q v, x = p ++ q ∧ atP (.mk w ns ps) q = some v ∧ v.w.deed = true ∧ lk x = none := fun hw hl e => ⟨[], .mk w ns ps, by simp [e], atP_nil _, hw, by rw [e]; exact hl⟩
    have down : (∃ (i : Nat) (q : Place) (u v : Tm), x = kid p i ++ q ∧ ps[i]? = some u ∧ atP u q = some v ∧ v.w.deed = true ∧ lk x = none) → ∃ q v, x = p ++ q ∧ atP (.mk w ns ps) q = some v ∧ v.w.deed = true ∧ lk x = none := fun ⟨i, q, u, v, h1, h2, h3, h4, h5⟩ =>
      ⟨(i : Int) :: q, v, by rw [h1]; simp [kid], by rw [atP_nat (u := u) h2]; exact h3, h4, h5⟩
    cases w <;> rw [opn] at h
    · split at h
      · cases h
      · rename_i hn; simp at h; exact self rfl (by cases z : lk p <;> simp_all) h
    · split at h
      · cases h
      · rename_i hn; simp at h; exact self rfl (by cases z : lk p <;> simp_all) h
    · split at h
      · cases h
      · rename_i hn; simp at h; exact self rfl (by cases z : lk p <;> simp_all) h
    · split at h
      · rename_i hn; simp at h; exact self rfl hn h
      · rename_i k hk
        obtain ⟨i, q, u, v, h1, h2, h3⟩ := opnPick_mem ps 0 k p x h
        exact down ⟨i, q, u, v, by simpa using h1, h2, h3⟩
    · obtain ⟨i, q, u, v, h1, h2, h3⟩ := opnRow_mem ps 0 p x h
      exact down ⟨i, q, u, v, by simpa using h1, h2, h3⟩
    · obtain ⟨i, q, u, v, h1, h2, h3⟩ := opnAll_mem ps 0 p x h
      exact down ⟨i, q, u, v, by simpa using h1, h2, h3⟩
    · obtain ⟨i, q, u, v, h1, h2, h3⟩ := opnAll_mem ps 0 p x h
      exact down ⟨i, q, u, v, by simpa using h1, h2, h3⟩
    · cases h
theorem opnAll_mem {T : Place → Bool} {lk : Place → Option Int} : ∀ (us : List Tm) (k : Nat) (p : Place), ∀ x ∈ opnAll T lk us k p, ∃ (i : Nat) (q : Place) (u v : Tm), x = kid p (k + i) ++ q ∧ us[i]? = some u ∧ atP u q = some v ∧ v.w.deed = true ∧ lk x = none
  | [], _, _, x, h => by cases h
  | u :: r, k, p, x, h => by
    rw [opnAll, List.mem_append] at h
    rcases h with h | h
    · obtain ⟨q, v, h1, h2, h3⟩ := opn_mem u (kid p k) x h
      exact ⟨0, q, u, v, h1, rfl, h2, h3⟩
    · obtain ⟨i, q, u', v, h1, h2, h3⟩ := opnAll_mem r (k + 1) p x h
      exact ⟨i + 1, q, u', v, by rw [h1, show k + 1 + i = k + (i + 1) by omega], by simpa using h2, h3⟩
theorem opnRow_mem {T : Place → Bool} {lk : Place → Option Int} : ∀ (us : List Tm) (k : Nat) (p : Place), ∀ x ∈ opnRow T lk us k p, ∃ (i : Nat) (q : Place) (u v : Tm), x = kid p (k + i) ++ q ∧ us[i]? = some u ∧ atP u q = some v ∧ v.w.deed = true ∧ lk x = none
  | [], _, _, x, h => by cases h
  | u :: r, k, p, x, h => by
    rw [opnRow, List.mem_append] at h
    rcases h with h | h
    · obtain ⟨q, v, h1, h2, h3⟩ := opn_mem u (kid p k) x h
      exact ⟨0, q, u, v, h1, rfl, h2, h3⟩
    · split at h
      · obtain ⟨i, q, u', v, h1, h2, h3⟩ := opnRow_mem r (k + 1) p x h
        exact ⟨i + 1, q, u', v, by rw [h1, show k + 1 + i = k + (i + 1) by omega], by simpa using h2, h3⟩
      · cases h
theorem opnPick_mem {T : Place → Bool} {lk : Place → Option Int} : ∀ (us : List Tm) (k : Nat) (j : Int) (p : Place), ∀ x ∈ opnPick T lk us k j p, ∃ (i : Nat) (q : Place) (u v : Tm), x = kid p (k + i) ++ q ∧ us[i]? = some u ∧ atP u q = some v ∧ v.w.deed = true ∧ lk x = none
  | [], _, _, _, x, h => by cases h
  | u :: r, k, j, p, x, h => by
    rw [opnPick] at h
    split at h
    · obtain ⟨q, v, h1, h2, h3⟩ := opn_mem u (kid p k) x h
      exact ⟨0, q, u, v, h1, rfl, h2, h3⟩
    · obtain ⟨i, q, u', v, h1, h2, h3⟩ := opnPick_mem r (k + 1) j p x h
      exact ⟨i + 1, q, u', v, by rw [h1, show k + 1 + i = k + (i + 1) by omega], by simpa using h2, h3⟩
end
mutual
theorem opn_lt {T : Place → Bool} {lk : Place → Option Int} : ∀ (u : Tm) (p : Place), (opn T lk u p).Pairwise (· < ·)
  | .mk w ns ps, p => by
    cases w <;> rw [opn]
    · split <;> simp
    · split <;> simp
    · split <;> simp
    · split
      · simp
      · exact opnPick_lt ps 0 _ p
    · exact opnRow_lt ps 0 p
    · exact opnAll_lt ps 0 p
    · exact opnAll_lt ps 0 p
    · simp
theorem opnAll_lt {T : Place → Bool} {lk : Place → Option Int} : ∀ (us : List Tm) (k : Nat) (p : Place), (opnAll T lk us k p).Pairwise (· < ·)
  | [], _, _ => by rw [opnAll]; simp
  | u :: r, k, p => by
    rw [opnAll, List.pairwise_append]
    refine ⟨opn_lt u _, opnAll_lt r _ p, fun a ha b hb => ?_⟩
    obtain ⟨q, v, h1, _⟩ := opn_mem u (kid p k) a ha
    obtain ⟨i, q', u', v', h2, _⟩ := opnAll_mem r (k + 1) p b hb
    rw [h1, h2]
    unfold kid
    rw [List.append_assoc, List.append_assoc]
    exact lt_head p (by omega)
theorem opnRow_lt {T : Place → Bool} {lk : Place → Option Int} : ∀ (us : List Tm) (k : Nat) (p : Place), (opnRow T lk us k p).Pairwise (· < ·)
  | [], _, _ => by rw [opnRow]; simp
  | u :: r, k, p => by
    rw [opnRow, List.pairwise_append]
    refine ⟨opn_lt u _, ?_, fun a ha b hb => ?_⟩
    · split
      · exact opnRow_lt r _ p
      · simp
    · split at hb
      · obtain ⟨q, v, h1, _⟩ := opn_mem u (kid p k) a ha
        obtain ⟨i, q', u', v', h2, _⟩ := opnRow_mem r (k + 1) p b hb
        rw [h1, h2]
        unfold kid
        rw [List.append_assoc, List.append_assoc]
        exact lt_head p (by omega)
      · cases hb
theorem opnPick_lt {T : Place → Bool} {lk : Place → Option Int} : ∀ (us : List Tm) (k : Nat) (j : Int) (p : Place), (opnPick T lk us k j p).Pairwise (· < ·)
  | [], _, _, _ => by rw [opnPick]; simp
  | u :: r, k, j, p => by
    rw [opnPick]; split
    · exact opn_lt u _
    · exact opnPick_lt r _ j p
end
end Sw

/-! Dicts put anew at one key. -/
namespace Sw
open PySem PySem.Spec PyProof.Rows L2 PySem.W
section
variable {α β : Type} [DecidableEq α]
theorem assocPut_mem {m : List (α × β)} {x : α} {v : β} {y : α × β} (h : y ∈ assocPut m x v) : y ∈ m ∨ y = (x, v) := by
  unfold assocPut at h
  split at h
  · obtain ⟨z, h1, rfl⟩ := List.mem_map.mp h
    split
    · rename_i e; exact .inr (by rw [e])
    · exact .inl h1
  · rcases List.mem_append.mp h with h | h
    · exact .inl h
    · exact .inr (by simpa using h)
theorem assocPut_keys {m : List (α × β)} {x : α} {v : β} : (assocPut m x v).map (·.1) = if (assoc m x).isSome then m.map (·.1) else m.map (·.1) ++ [x] := by
  unfold assocPut
  split
  · rw [List.map_map]
    apply List.map_congr_left
    intro z _
    show (if z.1 = x then (z.1, v) else z).1 = z.1
    split <;> rfl
  · simp
theorem assocPut_nodup {m : List (α × β)} {x : α} {v : β} (h : (m.map (·.1)).Nodup) : ((assocPut m x v).map (·.1)).Nodup := by
  rw [assocPut_keys]
  split
  · exact h
  · rename_i e
    have hn : x ∉ m.map (·.1) := fun z => e (assoc_iff.mpr z)
    rw [List.nodup_append]
    refine ⟨h, by simp, fun a ha b hb e2 => ?_⟩
    simp at hb; rw [e2, hb] at ha; exact hn ha
theorem assocPut_in {m : List (α × β)} {x : α} {v : β} {y : α} : y ∈ (assocPut m x v).map (·.1) ↔ y ∈ m.map (·.1) ∨ y = x := by
  rw [assocPut_keys]
  split
  · rename_i e
    have := assoc_iff.mp e
    constructor
    · exact .inl
    · rintro (h | rfl)
      · exact h
      · exact this
  · simp
theorem assoc_nil (x : α) : assoc ([] : List (α × β)) x = none := rfl
theorem assoc_cons (y : α × β) (m : List (α × β)) (x : α) : assoc (y :: m) x = if y.1 = x then some y.2 else assoc m x := by
  unfold assoc
  rw [List.find?_cons]
  by_cases h : y.1 = x
  · rw [decide_eq_true h, if_pos h]; rfl
  · rw [decide_eq_false h, if_neg h]
theorem assoc_append (m l : List (α × β)) (x : α) : assoc (m ++ l) x = (assoc m x).or (assoc l x) := by
  induction m with
  | nil => rfl
  | cons y m ih =>
    rw [List.cons_append, assoc_cons, assoc_cons]
    split
    · rfl
    · exact ih
theorem assoc_mapv (m : List (α × β)) (x : α) (v : β) (y : α) : assoc (m.map fun p => if p.1 = x then (p.1, v) else p) y = if y = x then (assoc m y).map (fun _ => v) else assoc m y := by
  induction m with
  | nil => rw [List.map_nil, assoc_nil]; split <;> rfl
  | cons z m ih =>
    rw [List.map_cons, assoc_cons, assoc_cons, ih]
    by_cases h : z.1 = x
    · rw [if_pos h]
      by_cases e : z.1 = y
      · rw [if_pos e, if_pos e, if_pos (e ▸ h)]; rfl
      · rw [if_neg e, if_neg e]
    · rw [if_neg h]
      by_cases e : z.1 = y
      · rw [if_pos e, if_pos e, if_neg (e ▸ h)]
      · rw [if_neg e, if_neg e]
theorem assoc_put (m : List (α × β)) (x : α) (v : β) (y : α) : assoc (assocPut m x v) y = if y = x then some v else assoc m y := by
  unfold assocPut
  split
  · rename_i h
    rw [assoc_mapv]
    split
    · rename_i e; subst e
      obtain ⟨b, e⟩ := Option.isSome_iff_exists.mp h
      rw [e]; rfl
    · rfl
  · rename_i h
    have hn : assoc m x = none := by cases z : assoc m x with | none => rfl | some _ => rw [z] at h; simp at h
    rw [assoc_append, assoc_cons, assoc_nil]
    by_cases e : y = x
    · subst e; rw [hn]; simp
    · rw [if_neg (Ne.symm e), if_neg e]; simp
theorem assocPut_len {m : List (α × β)} {x : α} {v : β} : (assocPut m x v).length ≤ m.length + 1 := by
  unfold assocPut; split <;> simp
end
theorem sub_at {st sx : Sto} (s : Sub st sx) {f : Addr} {o : Ob} (h : sx f = some o) : Sub (put st f o) sx := fun a u e => by
  by_cases n : a = f
  · subst n; rw [put_same] at e; cases e; exact h
  · rw [put_ne n] at e; exact s a u e
theorem sub_m {st sx : Sto} {m : Addr} {x y : Ob} (s : Sub (put st m x) sx) : Sub (put st m y) (put sx m y) := by
  have := s.both (p := m) (o := y)
  rw [put_put] at this
  exact this
mutual
theorem high_mem : ∀ {t : Tm} {ts : List Tm}, t ∈ ts → high t ≤ highL ts ∧ size t ≤ sizeL ts
  | t, [], h => by cases h
  | t, u :: us, h => by
    rw [highL, sizeL]
    rcases List.mem_cons.mp h with rfl | h
    · omega
    · have := high_mem h; omega
end
theorem put_id {st : Sto} {a : Addr} {o : Ob} (h : st a = some o) : put st a o = st := by
  funext b; unfold put; split
  · rename_i e; subst e; exact h.symm
  · rfl
end Sw

/-! A wait stands in the row in which it was lent; what is open, said at once. -/
namespace Sw
open PySem PySem.Spec PyProof.Rows L2 PySem.W
mutual
theorem waits_row : ∀ (t : Tm) (ar : List Int), Ok t → waits t ar = true → ∀ (p : Place) (u : Tm), atP t p = some u → u.w = .wait → ∀ h ∈ u.ns, h ∈ ar ∨ ∃ (r : Place) (i j : Nat) (q : Place) (v : Tm), p = r ++ ((j : Int) :: q) ∧ i < j ∧ atP t (kid r i) = some v ∧ v.w = .lend ∧ h ∈ v.ns ∧ ∃ z, atP t r = some z ∧ z.w = .row
  | .mk w ns ps, ar, ok, hw, p, u, hu, hwt, h, hh => by
    rw [waits] at hw
    cases p with
    | nil =>
      rw [atP_nil] at hu
      cases hu
      have e : w = .wait := hwt
      rw [if_pos e, List.all_eq_true] at hw
      exact .inl (of_decide_eq_true (hw h hh))
    | cons k p =>
      obtain ⟨hk, v, e1, e2⟩ := atP_cons hu
      by_cases e : w = .wait
      · have e3 : ps = [] := ok.2.1 (by rw [e]; rfl)
        subst e3
        simp [Tm.ps] at e1
      · rw [if_neg e] at hw
        have ek : k = ((k.toNat : Nat) : Int) := by omega
        rcases waitsL_row (decide (w = .row)) ps _ ok.2.2 hw k.toNat v e1 p u e2 hwt h hh with z | ⟨i, v', hi, z1, z2, z3, z6⟩ | ⟨r, i, j, q, v', z1, z2, z3, z4, z5, y, z6, z7⟩
        · by_cases el : w = .look
          · rw [if_pos el] at z; cases z
          · rw [if_neg el] at z; exact .inl z
        · refine .inr ⟨[], i, k.toNat, p, v', by rw [← ek]; rfl, hi, ?_, z2, z3, .mk w ns ps, atP_nil _, of_decide_eq_true z6⟩
          show atP (.mk w ns ps) ((i : Int) :: []) = some v'
          rw [atP_nat (u := v') z1]; exact atP_nil v'
        · refine .inr ⟨k :: r, i, j, q, v', by rw [z1]; rfl, z2, ?_, z4, z5, y, ?_, z7⟩
          · show atP (.mk w ns ps) (k :: (r ++ [(i : Int)])) = some v'
            rw [atP, if_pos hk, e1]
            exact z3
          · rw [atP, if_pos hk, e1]; exact z6
theorem waitsL_row : ∀ (b : Bool) (ts : List Tm) (ar : List Int), OkL ts → waitsL b ts ar = true → ∀ (k : Nat) (v : Tm), ts[k]? = some v → ∀ (p : Place) (u : Tm), atP v p = some u → u.w = .wait → ∀ h ∈ u.ns,
    h ∈ ar ∨ (∃ (i : Nat) (v' : Tm), i < k ∧ ts[i]? = some v' ∧ v'.w = .lend ∧ h ∈ v'.ns ∧ b = true) ∨ ∃ (r : Place) (i j : Nat) (q : Place) (v' : Tm), p = r ++ ((j : Int) :: q) ∧ i < j ∧ atP v (kid r i) = some v' ∧ v'.w = .lend ∧ h ∈ v'.ns ∧ ∃ z, atP v r = some z ∧ z.w = .row
  | b, [], ar, ok, hw, k, v, e, p, u, hu, hwt, h, hh => by simp at e
  | b, t :: r, ar, ok, hw, k, v, e, p, u, hu, hwt, h, hh => by
    rw [waitsL, Bool.and_eq_true] at hw
    cases k with
    | zero =>
      simp at e
      subst e
      rcases waits_row t ar ok.1 hw.1 p u hu hwt h hh with z | z
      · exact .inl z
      · exact .inr (.inr z)
    | succ k =>
      simp at e
      rcases waitsL_row b r _ ok.2 hw.2 k v e p u hu hwt h hh with z | ⟨i, v', z0, z1, z2, z3, z4⟩ | z
      · by_cases c : (b && decide (t.w = .lend)) = true
        · rw [if_pos c, List.mem_append] at z
          rcases z with z | z
          · exact .inl z
          · rw [Bool.and_eq_true, decide_eq_true_eq] at c
            exact .inr (.inl ⟨0, t, by omega, rfl, c.2, z, c.1⟩)
        · rw [if_neg c] at z; exact .inl z
      · exact .inr (.inl ⟨i + 1, v', by omega, by simpa using z1, z2, z3, z4⟩)
      · exact .inr (.inr z)
end
theorem atP_split {u : Tm} : ∀ {t : Tm} {p q : Place}, atP t (p ++ q) = some u → ∃ v, atP t p = some v ∧ atP v q = some u := by
  intro t p
  induction p generalizing t with
  | nil => intro q h; exact ⟨t, atP_nil t, h⟩
  | cons k p ih =>
    intro q h
    rw [List.cons_append] at h
    obtain ⟨hk, y, e1, e2⟩ := atP_cons h
    obtain ⟨v, h1, h2⟩ := ih e2
    exact ⟨v, by rw [atP, if_pos hk, e1]; exact h1, h2⟩
/-! opened -/
section
variable (t : Tm) (lk : Place → Option Int) (T : Place → Prop)
def kidS (r : Place) (j : Int) : Prop := ∃ v, atP t r = some v ∧ (match v.w with
  | .look => lk r = some j
  | .lend => True
  | .both => True
  | .row => ∀ i : Nat, (i : Int) < j → T (kid r i)
  | _ => False)
def OS (x : Place) : Prop := x ∈ placesIn t [] ∧ ∀ r j y, x = r ++ j :: y → kidS t lk T r j
end
section
variable {t : Tm} {lk : Place → Option Int} {T : Place → Prop}
theorem OS_nil : OS t lk T [] := ⟨mem_places0.mpr ⟨t, atP_nil t⟩, fun r j y e => by cases r <;> cases e⟩
theorem OS_snoc {r : Place} {j : Int} : OS t lk T (r ++ [j]) ↔ r ++ [j] ∈ placesIn t [] ∧ OS t lk T r ∧ kidS t lk T r j := by
  constructor
  · rintro ⟨h1, h2⟩
    obtain ⟨u, hu⟩ := mem_places0.mp h1
    obtain ⟨v, hv, _⟩ := atP_split hu
    refine ⟨h1, ⟨mem_places0.mpr ⟨v, hv⟩, fun r' j' y e => h2 r' j' (y ++ [j]) (by rw [e]; simp)⟩, h2 r j [] rfl⟩
  · rintro ⟨h1, ⟨_, h2⟩, h3⟩
    refine ⟨h1, fun r' j' y e => ?_⟩
    rcases List.eq_nil_or_concat y with rfl | ⟨y', z, rfl⟩
    · have e2 := List.append_inj' e rfl
      cases e2.1; cases e2.2
      exact h3
    · have e' : r ++ [j] = (r' ++ j' :: y') ++ [z] := by rw [e]; simp
      have e2 := List.append_inj' e' rfl
      exact h2 r' j' y' e2.1
theorem OS_pre {r y : Place} (h : OS t lk T (r ++ y)) : OS t lk T r := by
  obtain ⟨u, hu⟩ := mem_places0.mp h.1
  obtain ⟨v, hv, _⟩ := atP_split hu
  exact ⟨mem_places0.mpr ⟨v, hv⟩, fun r' j' y' e => h.2 r' j' (y' ++ y) (by rw [e]; simp)⟩
theorem OS_kid {r y : Place} {j : Int} (h : OS t lk T (r ++ j :: y)) : kidS t lk T r j := h.2 r j y rfl
end
end Sw

/-! d.get(k, x), d.pop(k), len(d) of dicts by tuple keys. -/
namespace Sw
open PySem PySem.Spec PyProof.Rows L2 PySem.W
section
variable {X : Cx}
def rNGetOr (P : Program) (w : World) (K : PySem.W.Frag) : V → List V → Hp → VK → Prop := fun x vs H Q => ∃ a b kvs ks k v, x = .ref a ∧ vs = [.ref b, v] ∧ DicAt P w K H a kvs ks ∧ KeyAt K H k b ∧ Q ((lookN ks k).getD v) H
theorem mt_nget (hu : X.A.units + 65 < cLine) : MtR X "dict.get" (rNGetOr X.prog X.w X.K) := by
  intro pins s σ H x vs u us Q I rx r h
  obtain ⟨a, b, kvs, ks, k, v, rfl, rfl, d, ka, q⟩ := h
  cases rx
  obtain ⟨u1, u2, rfl, r1, r2⟩ := vals2 r
  cases r1
  obtain ⟨xs, p1, p2⟩ := dic_heap I d
  refine getOr_keyed (show X.A.in1.units + 8 < cLine by show X.A.units + 1 + 8 < cLine; omega) (ka.is I) d.sys ⟨xs, p2, rfl⟩ ⟨_, H, I.tok _, ?_, q⟩
  rw [valueAt_pairsH]
  cases z : lookN ks k with
  | none => rw [(look_NX p1).2 z]; exact r2
  | some y => obtain ⟨b', u', e1, e2⟩ := (look_NX p1).1 y z; rw [e1]; exact e2
def ngoL (x : Option (List (DV × DV))) (k : Option NestedKey) (d : DV) (st : Sto) (Q : DV → Sto → Prop) : Prop := match x, k with
  | some kvs, some k => Q ((lookD kvs k).getD d) st
  | _, _ => False
def ngoD : DM := fun x ds st Q => match x, ds with | .ref a, [i, d] => ngoL (dicAt st a) (keyT i) d st Q | _, _ => False
theorem dm_nget : DMet X "dict" (rNGetOr X.prog X.w X.K) ngoD := by
  intro x ds v vs st H Qd Q g rx rs h k
  unfold ngoD at h
  split at h
  · rename_i a i d
    cases rx
    cases rs with
    | cons ri rs =>
      cases rs with
      | cons rd rs =>
        cases rs
        unfold ngoL at h
        split at h
        · rename_i kvs ky e1 e2
          obtain ⟨ks, da⟩ := dicAt_is g e1
          obtain ⟨b, rfl, ka, e3, e4⟩ := keyT_at ri e2
          obtain ⟨i1, i2⟩ := look_DN (k := ky) da.pr
          refine ⟨a, b, kvs, ks, ky, _, rfl, rfl, da, ka, ?_⟩
          cases q : lookD kvs ky with
          | none => rw [q] at h; rw [i2 q]; exact k.at g h rd
          | some y => rw [q] at h; obtain ⟨v, e, r⟩ := i1 y q; rw [e]; exact k.at g h r
        · exact h.elim
  · exact h.elim
theorem ngoD_r {a : Addr} {i d : DV} {st : Sto} {Q : DV → Sto → Prop} : ngoD (.ref a) [i, d] st Q = ngoL (dicAt st a) (keyT i) d st Q := rfl
theorem ngoL_s {kvs : List (DV × DV)} {k : NestedKey} {d : DV} {st : Sto} {Q : DV → Sto → Prop} : ngoL (some kvs) (some k) d st Q = Q ((lookD kvs k).getD d) st := rfl
/-! d.pop(k) -/
def dropN (ks : List (NestedKey × Addr × V)) (k : NestedKey) : List (NestedKey × Addr × V) := ks.filter fun x => decide (x.1 ≠ k)
def dropD (kvs : List (DV × DV)) (k : NestedKey) : List (DV × DV) := kvs.filter fun x => decide (keyOf x.1 ≠ some k)
theorem drop_NX {k : NestedKey} : ∀ {ks : List (NestedKey × Addr × V)} {xs : List (NestedKey × Addr × Value)}, Paired KX3 ks xs → Paired KX3 (dropN ks k) (withoutH xs k)
  | _, _, .nil => .nil
  | _, _, .cons (a := p) (b := q) r t => by
    unfold dropN withoutH
    rw [List.filter_cons, List.filter_cons]
    by_cases h : q.1 = k
    · rw [if_neg (by rw [r.1]; simp [h]), if_neg (by simp [h])]; exact drop_NX t
    · rw [if_pos (by rw [r.1]; simp [h]), if_pos (by simp [h])]; exact .cons r (drop_NX t)
theorem drop_DN {K : PySem.W.Frag} {H : Hp} {k : NestedKey} : ∀ {kvs : List (DV × DV)} {ks : List (NestedKey × Addr × V)}, Paired (KP3 K H) kvs ks → Paired (KP3 K H) (dropD kvs k) (dropN ks k)
  | _, _, .nil => .nil
  | _, _, .cons (a := p) (b := q) r t => by
    unfold dropN dropD
    rw [List.filter_cons, List.filter_cons]
    by_cases h : q.1 = k
    · rw [if_neg (by rw [r.1]; simp [h]), if_neg (by simp [h])]; exact drop_DN t
    · rw [if_pos (by rw [r.1]; simp [h]), if_pos (by simp [h])]; exact .cons r (drop_DN t)
def rNPop (P : Program) (w : World) (K : PySem.W.Frag) : V → List V → Hp → VK → Prop := fun x vs H Q => ∃ a b kvs ks k y, x = .ref a ∧ vs = [.ref b] ∧ DicAt P w K H a kvs ks ∧ H a = some (.ext (NDk P w a ks)) ∧ KeyAt K H k b ∧ ks.length ≤ sizeLine ∧ lookN ks k = some y ∧ Q y (upd H a (.ext (NDk P w a (dropN ks k))))
theorem mt_npop (hu : X.A.units + 65 < cLine) : MtR X "dict.pop" (rNPop X.prog X.w X.K) := by
  intro pins s σ H x vs u us Q I rx r h
  obtain ⟨a, b, kvs, ks, k, y, rfl, rfl, d, ha, ka, hz, hl, q⟩ := h
  cases rx
  obtain ⟨u1, rfl, r1⟩ := vals1 r
  cases r1
  obtain ⟨xs, p1, p2⟩ := dic_heap I d
  obtain ⟨b', u', e1, e2⟩ := (look_NX p1).1 y hl
  refine call_pop_heap (hsz := by rw [← paired_len p1]; exact hz) (.inl rfl) (PySem.F.args_dict_pop_2 _ _) (show X.A.in1.units + 8 < cLine by show X.A.units + 1 + 8 < cLine; omega) (ka.is I) d.sys p2 e1 fun h' p3 hs => ?_
  obtain ⟨o, es, ep, z1, zr⟩ := id p3
  exact ⟨y, _, d_write I (by rw [ha]; exact True.intro) hs ⟨o, z1⟩ (ndk_ok (drop_NX p1) p3), e2, q⟩
def npopO (a : Addr) (kvs : List (DV × DV)) (k : NestedKey) (x : Option DV) (st : Sto) (Q : DV → Sto → Prop) : Prop := match x with | some y => Q y (put st a (.dic (dropD kvs k))) | none => False
def npopL (a : Addr) (x : Option Ob) (k : Option NestedKey) (st : Sto) (Q : DV → Sto → Prop) : Prop := match x, k with
  | some (.dic kvs), some k => kvs.length ≤ sizeLine ∧ npopO a kvs k (lookD kvs k) st Q
  | _, _ => False
def npopD : DM := fun x ds st Q => match x, ds with | .ref a, [i] => npopL a (st a) (keyT i) st Q | _, _ => False
theorem dm_npop : DMet X "dict" (rNPop X.prog X.w X.K) npopD := by
  intro x ds v vs st H Qd Q g rx rs h k
  unfold npopD at h
  split at h
  · rename_i a i
    cases rx
    cases rs with
    | cons ri rs =>
      cases rs
      unfold npopL at h
      split at h
      · rename_i kvs ky e1 e2
        obtain ⟨z, ks, e, p⟩ := g a _ e1
        obtain ⟨b, rfl, ka, e3, e4⟩ := keyT_at ri e2
        obtain ⟨i1, i2⟩ := look_DN (k := ky) p
        obtain ⟨h1, h2⟩ := h
        cases q : lookD kvs ky with
        | none => rw [q] at h2; exact h2.elim
        | some y =>
          rw [q] at h2
          obtain ⟨u, e5, e6⟩ := i1 y q
          refine ⟨a, b, kvs, ks, ky, u, rfl, rfl, ⟨z, .inl e, p⟩, e, ka, by rw [← paired_len p]; exact h1, e5, ?_⟩
          have t : TupX X.K H (upd H a (.ext (NDk X.prog X.w a (dropN ks ky)))) := tupX_upd fun xs z => by rw [g.not_tup z] at e1; cases e1
          exact k _ _ _ _ h2 (e6.mono t) (g.set e1 fun t => ⟨z, _, upd_same, drop_DN (Paired.mapP p fun _ _ z => ⟨z.1, z.2.1, z.2.2.1.mono t, z.2.2.2.mono t⟩)⟩) (Stp.set e1 rfl)
      · exact h.elim
  · exact h.elim
theorem npopD_r {a : Addr} {i : DV} {st : Sto} {Q : DV → Sto → Prop} : npopD (.ref a) [i] st Q = npopL a (st a) (keyT i) st Q := rfl
theorem npopL_s {a : Addr} {kvs : List (DV × DV)} {k : NestedKey} {st : Sto} {Q : DV → Sto → Prop} : npopL a (some (.dic kvs)) (some k) st Q = (kvs.length ≤ sizeLine ∧ npopO a kvs k (lookD kvs k) st Q) := rfl
theorem npopO_s {a : Addr} {kvs : List (DV × DV)} {k : NestedKey} {y : DV} {st : Sto} {Q : DV → Sto → Prop} : npopO a kvs k (some y) st Q = Q y (put st a (.dic (dropD kvs k))) := rfl
theorem dropD_dmap {α β : Type} [DecidableEq α] (E : KeyEnc α) (ve : β → DV) (m : List (α × β)) (x : α) : dropD (dmap E ve m) (E.key x) = dmap E ve (m.filter fun p => decide (p.1 ≠ x)) := by
  unfold dropD dmap
  induction m with
  | nil => rfl
  | cons p r ih =>
    rw [List.map_cons, List.filter_cons, List.filter_cons, keyT_of (E.isT p.1), ih]
    by_cases h : p.1 = x
    · rw [if_neg (by simp [h]), if_neg (by simp [h])]
    · rw [if_pos (by simp; exact fun z => h (E.inj _ _ z)), if_pos (by simp [h])]; rfl
/-! len(d) -/
def rLenDic (P : Program) (w : World) (K : PySem.W.Frag) : List V → Hp → VK → Prop := fun vs H Q => ∃ (a : Addr) (kvs : List (DV × DV)) (ks : List (NestedKey × Addr × V)), vs = [V.ref a] ∧ DicAt P w K H a kvs ks ∧ ks.length ≤ sizeLine ∧ Q (.int ks.length) H
theorem cr_lenDic : CallR X (.builtin "len") (rLenDic X.prog X.w X.K) := by
  intro pins s σ H vs us Q I r h
  obtain ⟨a, kvs, ks, rfl, da, hz, q⟩ := h
  rw [Vals.ref1 r]
  obtain ⟨xs, p1, p2⟩ := dic_heap I da
  have hlx : ks.length = xs.length := paired_len p1
  have hn := line63
  refine Calls.call_function_entry kind_len plain_len entry_len (args_len1 _) ?_
  unfold Builtin.«len»
  refine wpAny_bind (m := oneArg "len" _) (wpAny_pure ?_)
  refine wpAny_bind (m := callSpecial? (.ref a) (Str.ofString "__len__")) (wpAny_callSpecial?_slot (name := Str.ofString "__len__") p2.typeIs F.slot_dict_len
    (len_keyed da.sys ⟨xs, p2, rfl⟩ ?_))
  rw [pairsH_length]
  refine wpAny_bind (wpAny_holding (wpAny_pure ?_))
  refine wpAny_bind (wpAny_letGo ?_)
  show wpAny _ _ (if ((xs.length : Nat) : Int) < 0 then _ else _) _ _ _
  rw [if_neg (by omega)]
  show wpAny _ _ (if ((xs.length : Nat) : Int) ≥ 2 ^ 63 then _ else _) _ _ _
  rw [if_neg (by omega)]
  exact wpAny_bind (wpAny_mkInt (wpAny_pure ⟨_, rfl, ⟨.int ks.length, H, I.tok _, ⟨_, by rw [hlx]⟩, q⟩⟩))
def lenDicL (x : Option (List (DV × DV))) (st : Sto) (Q : DV → Sto → Prop) : Prop := match x with | some kvs => kvs.length ≤ sizeLine ∧ Q (.int kvs.length) st | none => False
def lenDicD : DC := fun ds st Q => match ds with | [.ref a] => lenDicL (dicAt st a) st Q | _ => False
theorem dc_lenDic : DCal X (rLenDic X.prog X.w X.K) lenDicD := by
  intro ds vs st H Qd Q g r h k
  unfold lenDicD at h
  split at h
  · rename_i a
    cases r with
    | cons r rs =>
      cases rs
      cases r
      unfold lenDicL at h
      split at h
      · rename_i kvs e1
        obtain ⟨ks, da⟩ := dicAt_is g e1
        have hl := paired_len da.pr
        refine ⟨a, kvs, ks, rfl, da, by rw [← hl]; exact h.1, ?_⟩
        rw [← hl]
        exact k.at g h.2 (.int _)
      · exact h.elim
  · exact h.elim
theorem lenDicD_r {a : Addr} {st : Sto} {Q : DV → Sto → Prop} : lenDicD [.ref a] st Q = lenDicL (dicAt st a) st Q := rfl
theorem lenDicL_s {kvs : List (DV × DV)} {st : Sto} {Q : DV → Sto → Prop} : lenDicL (some kvs) st Q = (kvs.length ≤ sizeLine ∧ Q (.int kvs.length) st) := rfl
end
end Sw

/-! Loops by what was gone through; what is kept. -/
namespace Sw
open PySem PySem.Spec PyProof.Rows L2 PySem.W
/-- all but F is kept -/
def Kp (F : Addr → Prop) (st s : Sto) : Prop := ∀ e o, st e = some o → ¬ F e → s e = some o
theorem Kp.refl (F : Addr → Prop) (st : Sto) : Kp F st st := fun _ _ h _ => h
theorem Kp.trans {F : Addr → Prop} {a b c : Sto} (h : Kp F a b) (h' : Kp F b c) : Kp F a c := fun e o he hf => h' e o (h e o he hf) hf
theorem Kp.put {F : Addr → Prop} {st s : Sto} (h : Kp F st s) {a : Addr} {o : Ob} (ha : F a ∨ s a = none) : Kp F st (put s a o) := fun e u he hf => by
  have h1 := h e u he hf
  rcases ha with ha | ha
  · have ne : e ≠ a := fun z => hf (by rw [z]; exact ha)
    rw [put_ne ne]; exact h1
  · exact new_some h1 ha
theorem Kp.weak {F G : Addr → Prop} {st s : Sto} (h : Kp F st s) (hg : ∀ e, F e → G e) : Kp G st s := fun e o he hf => h e o he fun z => hf (hg e z)
theorem Kp.sub {F : Addr → Prop} {st s : Sto} (h : Kp F st s) (hn : ∀ e, F e → st e = none) : Sub st s := fun e o he => h e o he fun z => by rw [hn e z] at he; cases he
theorem Sub.kp {st s : Sto} (h : Sub st s) (F : Addr → Prop) : Kp F st s := fun e o he _ => h e o he
theorem Kp.sub_l {F : Addr → Prop} {a b c : Sto} (h : Sub a b) (h' : Kp F b c) : Kp F a c := fun e o he hf => h' e o (h e o he) hf
theorem Kp.lstAt {F : Addr → Prop} {st s : Sto} (h : Kp F st s) {a : Addr} {xs : List DV} (ha : ¬ F a) (e : Sw.lstAt st a = some xs) : Sw.lstAt s a = some xs := lstAt_keep e fun o z => h a o z ha
theorem Kp.dicAt {F : Addr → Prop} {st s : Sto} (h : Kp F st s) {a : Addr} {xs : List (DV × DV)} (ha : ¬ F a) (e : Sw.dicAt st a = some xs) : Sw.dicAt s a = some xs := by
  obtain ⟨o, ho⟩ := dicAt_some e
  have := h a o ho ha
  unfold Sw.dicAt at e ⊢
  rw [this]; rw [ho] at e; exact e
theorem Kp.unlock {F : Addr → Prop} {st s : Sto} {ls : List Addr} (h : Kp F (lockS st ls) s) : Kp F st (unlockS st s ls) := fun e o he hf => unlock_keep (P := fun e => ¬ F e) (fun e o a b => h e o a b) e o he hf
/-- a list that is only read stays one -/
theorem lock_lst {st : Sto} {a : Addr} {xs : List DV} (h : lstAt st a = some xs) : lockS st [a] a = some (.rol xs) := by
  unfold lstAt at h
  unfold lockS
  rw [if_pos (by simp)]
  split at h
  · rename_i z e; cases h; rw [e]
  · rename_i z e; cases h; rw [e]
  · cases h
theorem lock_one_ne {st : Sto} {a b : Addr} (h : b ≠ a) : lockS st [a] b = st b := lock_ne (by simpa using h)
theorem unlock_one_ne {st s : Sto} {a b : Addr} (h : b ≠ a) : unlockS st s [a] b = s b := unlock_ne (by simpa using h)
theorem sub_unlock {st s s0 : Sto} {a : Addr} (h : Sub s0 s) (hn : s0 a = none) : Sub s0 (unlockS st s [a]) := fun e o he => by
  rw [unlock_one_ne (ne_some he hn)]; exact h e o he
theorem ne_ob {s : Sto} {x y : Addr} {ox oy : Ob} (h1 : s x = some ox) (h2 : s y = some oy) (h3 : ox ≠ oy) : x ≠ y := fun e => by subst e; rw [h1] at h2; cases h2; exact h3 rfl
section
variable {α : Type} {W : XD} {g : MG} {m : MS} {D : DEnds}
/-- a loop, by what was gone through and what is left -/
theorem forL_it (en : α → DV) {xs : List α} (I : List α → List α → Rho → Sto → Prop)
    (hs : ∀ l x r ρ s, l ++ x :: r = xs → I l (x :: r) ρ s → ∀ N : Rho → Sto → Prop, (∀ ρ' s', I (l ++ [x]) r ρ' s' → N ρ' s') → g W (en x) ρ s fun ρ1 s1 => m W { D with nx := N, ct := N, bk := D.nx } ρ1 s1)
    (hd : ∀ ρ s, I xs [] ρ s → D.nx ρ s) {ρ : Rho} {st : Sto} (h0 : I [] xs ρ st) : forL W g m D (xs.map en) ρ st := by
  have gen : ∀ (r l : List α) (ρ : Rho) (s : Sto), l ++ r = xs → I l r ρ s → forL W g m D (r.map en) ρ s := by
    intro r
    induction r with
    | nil => intro l ρ s e h; rw [List.append_nil] at e; subst e; exact hd ρ s h
    | cons x r ih => intro l ρ s e h; exact hs l x r ρ s e h _ fun ρ' s' h' => ih (l ++ [x]) ρ' s' (by simpa using e) h'
  exact gen xs [] ρ st rfl h0
/-- the same over a list of the store -/
theorem forL_lst (en : α → DV) {a : Addr} {xs : List α} {st : Sto} (F : Addr → Prop) (I : List α → List α → Rho → Sto → Prop)
    (hs : ∀ l x r ρ s, l ++ x :: r = xs → I l (x :: r) ρ s → Kp F (lockS st [a]) s → ∀ N : Rho → Sto → Prop, (∀ ρ' s', I (l ++ [x]) r ρ' s' → Kp F (lockS st [a]) s' → N ρ' s') → g W (en x) ρ s fun ρ1 s1 => m W { D with nx := N, ct := N, bk := D.nx } ρ1 s1)
    (hd : ∀ ρ s, I xs [] ρ s → Kp F st (unlockS st s [a]) → D.nx ρ s) {ρ : Rho} (h0 : I [] xs ρ (lockS st [a])) : forL W g m D (xs.map en) ρ (lockS st [a]) :=
  forL_it en (fun l r ρ s => I l r ρ s ∧ Kp F (lockS st [a]) s) (fun l x r ρ s e h N hN => hs l x r ρ s e h.1 h.2 N fun ρ' s' h1 h2 => hN ρ' s' ⟨h1, h2⟩)
    (fun ρ s h => hd ρ s h.1 h.2.unlock) ⟨h0, .refl _ _⟩
theorem lcL_it (en : α → DV) {g : MG} {mt : MT} {me : ME} {ρ : Rho} {Q : List DV → Sto → Prop} {xs : List α} (I : List α → List α → List DV → Sto → Prop)
    (hs : ∀ l x r acc s, l ++ x :: r = xs → I l (x :: r) acc s → ∀ R : Option DV → Sto → Prop, (∀ o s', I (l ++ [x]) r (acc ++ o.toList) s' → R o s') → stepC g mt me ρ (en x) s R)
    (hd : ∀ acc s, I xs [] acc s → Q acc s) {st : Sto} (h0 : I [] xs [] st) : lcL g mt me ρ (xs.map en) [] st Q := by
  have gen : ∀ (r l : List α) (acc : List DV) (s : Sto), l ++ r = xs → I l r acc s → lcL g mt me ρ (r.map en) acc s Q := by
    intro r
    induction r with
    | nil => intro l acc s e h; rw [List.append_nil] at e; subst e; exact hd acc s h
    | cons x r ih =>
      intro l acc s e h
      have h1 := hs l x r acc s e h (fun o st => match o with | some x => lcL g mt me ρ (r.map en) (acc ++ [x]) st Q | none => lcL g mt me ρ (r.map en) acc st Q)
      have h2 : stepC g mt me ρ (en x) s (fun o st => match o with | some x => lcL g mt me ρ (r.map en) (acc ++ [x]) st Q | none => lcL g mt me ρ (r.map en) acc st Q) → lcL g mt me ρ ((x :: r).map en) acc s Q := fun z => z
      apply h2
      apply h1
      intro o s' h'
      cases o with
      | none => exact ih (l ++ [x]) acc s' (by simpa using e) (by simpa using h')
      | some d => exact ih (l ++ [x]) (acc ++ [d]) s' (by simpa using e) (by simpa using h')
  exact gen xs [] [] st rfl h0
end
theorem rangeD0 (n : Nat) : rangeD 0 n = (List.range n).map fun k => .int (k : Int) := by
  unfold rangeD; exact List.map_congr_left fun k _ => by rw [Int.zero_add]
theorem range_mid {l r : List Nat} {x n : Nat} (h : l ++ x :: r = List.range n) : l = List.range x ∧ x < n := by
  have h1 : (List.range n)[l.length]? = some x := by rw [← h]; simp
  have hl : l.length < n := by
    have := congrArg List.length h
    simp at this; omega
  rw [List.getElem?_range hl] at h1
  cases h1
  refine ⟨?_, hl⟩
  have h2 := congrArg (List.take l.length) h
  rw [List.take_left, List.take_range, Nat.min_eq_left (by omega)] at h2
  exact h2
end Sw

/-! max and min of a list of whole numbers. -/
namespace Sw
open PySem PySem.Spec PyProof.Rows L2 PySem.W
section
variable {X : Cx}
def extL (le : Int → Int → Prop) (x : Option (List DV)) (st : Sto) (Q : DV → Sto → Prop) : Prop := ∃ ns : List Int, x = some (ns.map DV.int) ∧ 0 < ns.length ∧ ∀ m, m ∈ ns → (∀ y ∈ ns, le y m) → Q (.int m) st
def extD (le : Int → Int → Prop) : DC := fun ds st Q => match ds with | [.ref a] => extL le (lstAt st a) st Q | _ => False
theorem dc_ext (le : Int → Int → Prop) : DCal X (fun vs H Q => ∃ (a : Addr) (ns : List Int), vs = [V.ref a] ∧ SqL X.K H a (ns.map V.int) ∧ 0 < ns.length ∧ ∀ m, m ∈ ns → (∀ y, y ∈ ns → le y m) → Q (.int m) H) (extD le) := by
  intro ds vs st H Qd Q g r h k
  cases r with
  | nil => exact h.elim
  | cons r rs =>
    cases rs with
    | cons _ _ => cases r <;> exact h.elim
    | nil =>
      cases r <;> try exact h.elim
      rename_i a
      obtain ⟨ns, e, h0, hq⟩ := h
      obtain ⟨xs, hq', hs⟩ := lstAt_sq g e
      have := hs.ints
      subst this
      exact ⟨a, ns, rfl, hq', h0, fun m hm hy => k _ _ _ _ (hq m hm hy) (.int m) g (.refl _ _)⟩
theorem extD_r {le : Int → Int → Prop} {a : Addr} {st : Sto} {Q : DV → Sto → Prop} : extD le [.ref a] st Q = extL le (lstAt st a) st Q := rfl
end
abbrev maxD : DC := extD fun y m => y ≤ m
abbrev minD : DC := extD fun y m => m ≤ y
/-- a statement, with a dict locked that the prover names, or none -/
def sLockA (m : MS) : MS := fun W D ρ st => m W D ρ st ∨ ∃ a kvs, st a = some (.dic kvs) ∧ m W (unlD a kvs D) ρ (put st a (.rod kvs))
theorem ps_or {X : Cx} {s0 : Stmt} {t u : TS} (h1 : PS X s0 t) (h2 : PS X s0 u) : PS X s0 (fun D σ H => t D σ H ∨ u D σ H) := ⟨fun pins s σ H D I h => h.elim (h1.run pins s σ H D I) (h2.run pins s σ H D I)⟩
theorem ds_lockA {X : Cx} {E : XK} {s0 : Stmt} {m : MS} (h : DS X E s0 m) : DS X E s0 (sLockA m) := by
  obtain ⟨t, p, q⟩ := h
  refine ⟨_, ps_or p (ps_lock p), fun W ρ σ st H Dd D S h R => ?_⟩
  rcases h with h | ⟨a, kvs, e1, h⟩
  · exact .inl (q W ρ σ st H Dd D S h R)
  · right
    obtain ⟨hz, ks, e2, pr⟩ := S.g a _ e1
    refine ⟨a, _, e2, True.intro, fun od => ?_⟩
    have g0 : Agr X.prog X.w X.K (put st a (.rod kvs)) (upd H a (.frz od (.ext (NDk X.prog X.w a ks)))) := S.g.set e1 fun t => ⟨hz, ks, ⟨od, upd_same⟩, Paired.mapP pr fun _ _ z => ⟨z.1, z.2.1, z.2.2.1.mono t, z.2.2.2.mono t⟩⟩
    have s0 : Stp st H (put st a (.rod kvs)) (upd H a (.frz od (.ext (NDk X.prog X.w a ks)))) := Stp.set e1 rfl
    have S1 := S.step g0 s0
    refine q W ρ σ _ _ _ _ S1 h ⟨fun ρ1 σ1 st1 H1 a1 b1 c1 => ?_, fun d st1 v H1 a1 b1 c1 e => ?_, fun ρ1 σ1 st1 H1 a1 b1 c1 => ?_, fun ρ1 σ1 st1 H1 a1 b1 c1 => ?_⟩
    · obtain ⟨z1, z2, z3⟩ := unlock_dic S.g e1 hz e2 pr b1.g c1
      have t2 : TupX X.K H1 (upd H1 a (.ext (NDk X.prog X.w a ks))) := tupX_upd fun xs z => by rcases z with z | ⟨o, z⟩ <;> · rw [z1] at z; cases z
      exact ⟨z1, R.nx _ _ _ _ a1 ⟨b1.r.mono t2, z2, (S.step z2 z3).x⟩ z3⟩
    · obtain ⟨z1, z2, z3⟩ := unlock_dic S.g e1 hz e2 pr c1 e
      have t2 : TupX X.K H1 (upd H1 a (.ext (NDk X.prog X.w a ks))) := tupX_upd fun xs z => by rcases z with z | ⟨o, z⟩ <;> · rw [z1] at z; cases z
      exact ⟨z1, R.rt _ _ _ _ a1 (b1.mono t2) z2 z3⟩
    · obtain ⟨z1, z2, z3⟩ := unlock_dic S.g e1 hz e2 pr b1.g c1
      have t2 : TupX X.K H1 (upd H1 a (.ext (NDk X.prog X.w a ks))) := tupX_upd fun xs z => by rcases z with z | ⟨o, z⟩ <;> · rw [z1] at z; cases z
      exact ⟨z1, R.bk _ _ _ _ a1 ⟨b1.r.mono t2, z2, (S.step z2 z3).x⟩ z3⟩
    · obtain ⟨z1, z2, z3⟩ := unlock_dic S.g e1 hz e2 pr b1.g c1
      have t2 : TupX X.K H1 (upd H1 a (.ext (NDk X.prog X.w a ks))) := tupX_upd fun xs z => by rcases z with z | ⟨o, z⟩ <;> · rw [z1] at z; cases z
      exact ⟨z1, R.ct _ _ _ _ a1 ⟨b1.r.mono t2, z2, (S.step z2 z3).x⟩ z3⟩
theorem lockA_by {m : MS} {W : XD} {D : DEnds} {ρ : Rho} {st : Sto} {v : Addr} {kvs : List (DV × DV)} {o : Ob} (ho : st v = some o) (h : dicAt st v = some kvs)
    (hm : ∀ D' : DEnds, (∀ ρ s, s v = some (.rod kvs) → D.nx ρ (put s v o) → D'.nx ρ s) → (∀ d s, s v = some (.rod kvs) → D.rt d (put s v o) → D'.rt d s) → (∀ ρ s, s v = some (.rod kvs) → D.bk ρ (put s v o) → D'.bk ρ s) → (∀ ρ s, s v = some (.rod kvs) → D.ct ρ (put s v o) → D'.ct ρ s) → m W D' ρ (put st v (.rod kvs))) : sLockA m W D ρ st := by
  unfold dicAt at h
  rw [ho] at h
  cases o <;> simp only [Option.some.injEq, reduceCtorEq] at h
  · subst h
    left
    have := hm D (fun ρ s hs h => by rwa [put_id hs] at h) (fun d s hs h => by rwa [put_id hs] at h) (fun ρ s hs h => by rwa [put_id hs] at h) (fun ρ s hs h => by rwa [put_id hs] at h)
    rwa [put_id ho] at this
  · subst h
    exact .inr ⟨v, _, ho, hm _ (fun ρ s _ h => h) (fun d s _ h => h) (fun ρ s _ h => h) (fun ρ s _ h => h)⟩
theorem lock_none_iff {st : Sto} {ls : List Addr} {p : Addr} : lockS st ls p = none ↔ st p = none := by
  unfold lockS
  by_cases h : p ∈ ls
  · rw [if_pos h]
    cases z : st p with
    | none => simp
    | some o => cases o <;> simp
  · rw [if_neg h]
/-! comprehensions within comprehensions -/
def relabelS (scope sc : Scope) : Scope := { kind := scope.kind, names := scope.names.map fun x => match x with | (n, k) => if (k == NameKind.free && sc.kind == ScopeKind.function && sc.names.lookup n == some NameKind.cell) = true then (n, NameKind.cell) else (n, k), isGenerator := scope.isGenerator, isCoroutine := scope.isCoroutine, more := scope.more }
theorem relabel_S (scope : Scope) (env : Env) : relabel scope env = relabelS scope env.scope := rfl
theorem blkOk_in {N : List Str} {sc outer inner : Scope} {own : List (Str × Nat)} {env : Env} (he : env.scope = sc) (h : blkC N (relabelS outer sc) inner own = true) : BlkOk N (relabel outer env) inner own := by
  subst he; rw [relabel_S]; exact blkOk_by h
theorem all_iff {α : Type} {xs : List α} {f : α → Bool} : ((xs.map f).all id) = true ↔ ∀ x ∈ xs, f x = true := by
  rw [List.all_eq_true]
  exact ⟨fun h x hx => h _ (List.mem_map.mpr ⟨x, hx, rfl⟩), fun h b hb => by obtain ⟨x, hx, rfl⟩ := List.mem_map.mp hb; exact h x hx⟩
/-- comprehensions of truths that change nothing that was -/
theorem lcL_bools {α : Type} {g : MG} {mt : MT} {me : ME} {ρ : Rho} {st : Sto} {Q : List DV → Sto → Prop} (en : α → DV) (f : α → Bool) {xs : List α} (hs : ∀ x ∈ xs, ∀ R, R (some (.bl (f x))) st → stepC g mt me ρ (en x) st R) (h : Q (xs.map fun x => .bl (f x)) st) : lcL g mt me ρ (xs.map en) [] st Q :=
  lcL_pureM en (fun x => some (.bl (f x))) xs [] hs (by rw [List.nil_append, List.filterMap_eq_map']; exact h)
theorem bls_map {α : Type} (f : α → Bool) (xs : List α) : blsOf (xs.map fun x => DV.bl (f x)) = some (xs.map f) := by
  have := filterMap_bl f xs
  rwa [List.filterMap_eq_map'] at this
end Sw

/-! Lists of lists of places. -/
namespace Sw
open PySem PySem.Spec PyProof.Rows L2 PySem.W
/-- a list of lists of places -/
structure LL (st : Sto) (f : Addr) (ap : List (Addr × List Place)) : Prop where
  top : st f = some (.lst (ap.map fun x => .ref x.1))
  ins : ∀ x ∈ ap, st x.1 = some (.lst (x.2.map encP))
  nd : (ap.map (·.1)).Nodup
theorem LL.sub {st s : Sto} {f : Addr} {ap : List (Addr × List Place)} (L : LL st f ap) (h : Sub st s) : LL s f ap := ⟨h _ _ L.top, fun x hx => h _ _ (L.ins x hx), L.nd⟩
theorem LL.ne {st : Sto} {f : Addr} {ap : List (Addr × List Place)} (L : LL st f ap) {x : Addr × List Place} (hx : x ∈ ap) : x.1 ≠ f := fun z => by
  have h1 := L.ins x hx
  rw [z, L.top] at h1
  have h2 := (Ob.lst.inj (Option.some.inj h1))
  cases ap with
  | nil => cases hx
  | cons y r =>
    cases hx2 : x.2 with
    | nil => rw [hx2] at h2; cases h2
    | cons p2 r2 => rw [hx2] at h2; simp [encP] at h2

def pdL (ps : List Place) : PyData := .list (purs (ps.map encP))
theorem lay_pdL (pss : List (List Place)) : PyData.canLayAll0 (pss.map pdL) = true := by
  induction pss with
  | nil => rw [List.map_nil, PyData.canLayAll0]
  | cons p r ih => rw [List.map_cons, PyData.canLayAll0, ih, pdL, PyData.canLay0, purs_lay (plains_encP p)]; rfl
theorem depth_pdL (pss : List (List Place)) : PyData.depthAll (pss.map pdL) ≤ 3 := by
  induction pss with
  | nil => rw [List.map_nil, PyData.depthAll]; decide
  | cons p r ih =>
    rw [List.map_cons, PyData.depthAll, pdL, PyData.depth, purs_depth (plains_encP p)]
    have : deeps (p.map encP) ≤ 1 := deeps_le.mpr fun d hd => by obtain ⟨x, _, rfl⟩ := List.mem_map.mp hd; rw [deep_encP]; decide
    omega
theorem eqv_pdL (p q : List Place) : PyData.eqv (pdL p) (pdL q) = true ↔ p = q := by
  unfold pdL
  rw [PyData.eqv, purs_eqv (plains_encP p) (plains_encP q)]
  exact ⟨fun h => (List.map_inj_right (fun _ _ e => encP_inj e)).mp h, fun h => by rw [h]⟩
theorem eqvs_pdL : ∀ (pss qss : List (List Place)), PyData.eqvAll (pss.map pdL) (qss.map pdL) = true ↔ pss = qss
  | [], [] => by simp [PyData.eqvAll]
  | [], _ :: _ => by simp [PyData.eqvAll]
  | _ :: _, [] => by simp [PyData.eqvAll]
  | p :: r, q :: s => by rw [List.map_cons, List.map_cons, PyData.eqvAll, Bool.and_eq_true, eqv_pdL, eqvs_pdL r s]; simp
theorem shaped_pdL (pss : List (List Place)) : SeqAt.shaped (.list (pss.map pdL)) = true := by
  unfold SeqAt.shaped
  rw [PyData.canLay0, lay_pdL, PyData.depth, decide_eq_true (by have := depth_pdL pss; omega)]; rfl
theorem dats_refs {st : Sto} : ∀ (ap : List (Addr × List Place)), (∀ x ∈ ap, lstAt st x.1 = some (x.2.map encP)) → Dats st (ap.map fun x => .ref x.1) (ap.map fun x => pdL x.2)
  | [], _ => .nil
  | x :: r, h => .cons (.lst (h x (by simp)) (dats_pur (plains_encP _))) (dats_refs r fun y hy => h y (by simp [hy]))
/-- two lists of lists -/
theorem eqIs_LL {st : Sto} {f g : Addr} {ap bp : List (Addr × List Place)} (hf : lstAt st f = some (ap.map fun x => .ref x.1)) (hg : lstAt st g = some (bp.map fun x => .ref x.1)) (ha : ∀ x ∈ ap, lstAt st x.1 = some (x.2.map encP)) (hb : ∀ x ∈ bp, lstAt st x.1 = some (x.2.map encP)) : EqIs st (.ref f) (.ref g) (decide (ap.map (·.2) = bp.map (·.2))) := by
  refine ⟨_, _, .lst hf (dats_refs ap ha), .lst hg (dats_refs bp hb), ?_, ?_, ?_⟩
  · rw [show ap.map (fun x => pdL x.2) = (ap.map (·.2)).map pdL by rw [List.map_map]; rfl]; exact shaped_pdL _
  · rw [show bp.map (fun x => pdL x.2) = (bp.map (·.2)).map pdL by rw [List.map_map]; rfl]; exact shaped_pdL _
  · rw [PyData.eqv, show ap.map (fun x => pdL x.2) = (ap.map (·.2)).map pdL by rw [List.map_map]; rfl, show bp.map (fun x => pdL x.2) = (bp.map (·.2)).map pdL by rw [List.map_map]; rfl]
    exact bool_iff (eqvs_pdL _ _) decide_eq_true_iff
theorem kp_none {F : Addr → Prop} {st s : Sto} (h : Kp F st s) {g : Addr} (hg : s g = none) (hF : F g → st g = none) : st g = none := by
  cases z : st g with
  | none => rfl
  | some o =>
    by_cases e : F g
    · rw [hF e] at z; cases z
    · rw [h g o z e] at hg; cases hg
end Sw

/-! list.index, insert, pop(i). -/
namespace Sw
open PySem PySem.Spec PyProof.Rows L2 PySem.W
section
variable {X : Cx}
def IdxIs (st : Sto) (x : DV) (ds : List DV) (j : Nat) : Prop := ∃ d es z, Dat st x d ∧ Dats st ds es ∧ SeqAt.shaped d = true ∧ SeqAt.shaped (.list es) = true ∧ es[j]? = some z ∧ PyData.eqv z d = true ∧ ∀ (m : Nat) (z' : PyData), m < j → es[m]? = some z' → PyData.eqv z' d = false
def indexL (x : Option (List DV)) (y : DV) (st : Sto) (Q : DV → Sto → Prop) : Prop := match x with | some ds => ∃ j : Nat, IdxIs st y ds j ∧ Q (.int j) st | none => False
def indexD : DM := fun x ds st Q => match x, ds with | .ref a, [y] => indexL (lstAt st a) y st Q | _, _ => False
theorem dm_index : DMet X "list" (rIndexD X.K) indexD := by
  intro x ds v vs st H Qd Q g rx rs h k
  cases rx <;> try (cases rs <;> exact h.elim)
  rename_i a
  cases rs with
  | nil => exact h.elim
  | cons r rs =>
    cases rs with
    | cons _ _ => exact h.elim
    | nil =>
      simp only [indexD, indexL] at h
      split at h
      · rename_i es q
        obtain ⟨j, ⟨d, ds', z, h1, h2, h3, h4, h5, h6, h7⟩, hq⟩ := h
        exact ⟨a, _, d, ds', j, z, rfl, rfl, Dat.dp g (.ref a) (.lst q h2), Dat.dp g r h1, h4, h3, h5, h6, h7, k.at g hq (.int _)⟩
      · exact h.elim
theorem indexD_r {a : Addr} {y : DV} {st : Sto} {Q : DV → Sto → Prop} : indexD (.ref a) [y] st Q = indexL (lstAt st a) y st Q := rfl
theorem indexL_s {ds : List DV} {y : DV} {st : Sto} {Q : DV → Sto → Prop} : indexL (some ds) y st Q = ∃ j : Nat, IdxIs st y ds j ∧ Q (.int j) st := rfl
def insertL (a : Addr) (x : Option Ob) (i : Int) (y : DV) (st : Sto) (Q : DV → Sto → Prop) : Prop := match x with | some (.lst xs) => (xs.length < sizeLine ∧ 0 ≤ i ∧ i < 2 ^ 63) ∧ Q .non (put st a (.lst (xs.take i.toNat ++ [y] ++ xs.drop i.toNat))) | _ => False
def insertD : DM := fun x ds st Q => match x, ds with | .ref a, [.int i, y] => insertL a (st a) i y st Q | _, _ => False
theorem dm_insert : DMet X "list" (fun x vs H Q => ∃ l xs i y, x = V.ref l ∧ vs = [V.int i, y] ∧ H l = some (HO.lst xs) ∧ xs.length < sizeLine ∧ 0 ≤ i ∧ i < 2 ^ 63 ∧ Q V.non (upd H l (HO.lst (List.take i.toNat xs ++ [y] ++ List.drop i.toNat xs)))) insertD := by
  intro x ds v vs st H Qd Q g rx rs h k
  cases rx <;> try (cases rs <;> exact h.elim)
  rename_i a
  cases rs with
  | nil => exact h.elim
  | cons r rs =>
    cases rs with
    | nil => cases r <;> exact h.elim
    | cons r2 rs =>
      cases rs with
      | cons _ _ => cases r <;> exact h.elim
      | nil =>
        cases r <;> try exact h.elim
        rename_i i
        simp only [insertD, insertL] at h
        split at h
        · rename_i xs q
          obtain ⟨us, e, z⟩ := g a _ q
          exact ⟨a, us, i, _, rfl, rfl, e, by rw [← z.length]; exact h.1.1, h.1.2.1, h.1.2.2, k.setl g q (((z.take _).append (.cons r2 .nil)).append (z.drop _)) .non h.2⟩
        · exact h.elim
theorem insertD_r {a : Addr} {i : Int} {y : DV} {st : Sto} {Q : DV → Sto → Prop} : insertD (.ref a) [.int i, y] st Q = insertL a (st a) i y st Q := rfl
theorem insertL_l {a : Addr} {xs : List DV} {i : Int} {y : DV} {st : Sto} {Q : DV → Sto → Prop} : insertL a (some (.lst xs)) i y st Q = ((xs.length < sizeLine ∧ 0 ≤ i ∧ i < 2 ^ 63) ∧ Q .non (put st a (.lst (xs.take i.toNat ++ [y] ++ xs.drop i.toNat)))) := rfl
theorem DVs.eraseIdx {K : PySem.W.Frag} {H : Hp} {ds : List DV} {vs : List V} (n : Nat) (h : DVs K H ds vs) : DVs K H (ds.eraseIdx n) (vs.eraseIdx n) := by
  rw [List.eraseIdx_eq_take_drop_succ, List.eraseIdx_eq_take_drop_succ]
  exact (h.take n).append (h.drop (n + 1))
def popAtL (a : Addr) (x : Option Ob) (i : Int) (st : Sto) (Q : DV → Sto → Prop) : Prop := match x with | some (.lst xs) => 0 ≤ i ∧ i < 2 ^ 63 ∧ ∃ y, xs[i.toNat]? = some y ∧ Q y (put st a (.lst (xs.eraseIdx i.toNat))) | _ => False
def popAtD : DM := fun x ds st Q => match x, ds with | .ref a, [.int i] => popAtL a (st a) i st Q | _, _ => False
theorem dm_popAt : DMet X "list" rPopAt popAtD := by
  intro x ds v vs st H Qd Q g rx rs h k
  cases rx <;> try (cases rs <;> exact h.elim)
  rename_i a
  cases rs with
  | nil => exact h.elim
  | cons r rs =>
    cases rs with
    | cons _ _ => cases r <;> exact h.elim
    | nil =>
      cases r <;> try exact h.elim
      rename_i i
      simp only [popAtD, popAtL] at h
      split at h
      · rename_i xs q
        obtain ⟨us, e, z⟩ := g a _ q
        obtain ⟨h0, h1, y, hy, hq⟩ := h
        obtain ⟨v, e1, r1⟩ := z.get hy
        have hlt : i.toNat < us.length := (List.getElem?_eq_some_iff.mp e1).1
        refine ⟨a, us, i, i.toNat, v, rfl, rfl, e, by omega, h1, ?_, e1, k.setl g q (z.eraseIdx _) r1 hq⟩
        unfold seqIndex?
        have hn : ¬ i < 0 := by omega
        simp only [hn, if_false]
        rw [if_pos]
        rw [Bool.and_eq_true, decide_eq_true_eq, decide_eq_true_eq]
        omega
      · exact h.elim
theorem popAtD_r {a : Addr} {i : Int} {st : Sto} {Q : DV → Sto → Prop} : popAtD (.ref a) [.int i] st Q = popAtL a (st a) i st Q := rfl
theorem popAtL_l {a : Addr} {xs : List DV} {i : Int} {st : Sto} {Q : DV → Sto → Prop} : popAtL a (some (.lst xs)) i st Q = (0 ≤ i ∧ i < 2 ^ 63 ∧ ∃ y, xs[i.toNat]? = some y ∧ Q y (put st a (.lst (xs.eraseIdx i.toNat)))) := rfl
theorem idxIs_pls {st : Sto} {p : Place} {xs : List Place} (h : p ∈ xs) : IdxIs st (encP p) (xs.map encP) (xs.idxOf p) := by
  have hlt := List.idxOf_lt_length_of_mem h
  refine ⟨pur (encP p), purs (xs.map encP), pur (encP p), dat_pur (plain_encP p), dats_pur (plains_encP xs), pur_shaped (plain_encP p) (by rw [deep_encP]; decide), purs_shaped (plains_encP xs) (deeps_encP xs), ?_, (pur_eqv (plain_encP p) (plain_encP p)).mpr rfl, fun m z' hm hz => ?_⟩
  · rw [purs_map, List.map_map, List.getElem?_map, List.getElem?_eq_getElem hlt, List.getElem_idxOf hlt]; rfl
  · rw [purs_map, List.map_map, List.getElem?_map] at hz
    obtain ⟨q, hq, rfl⟩ := Option.map_eq_some_iff.mp hz
    cases e : PyData.eqv ((pur ∘ encP) q) (pur (encP p)) with
    | false => rfl
    | true =>
      have := encP_inj ((pur_eqv (plain_encP q) (plain_encP p)).mp e)
      subst this
      have hml : m < xs.length := by omega
      rw [List.getElem?_eq_getElem hml] at hq
      have := List.not_of_lt_findIdx (p := (· == q)) (xs := xs) (i := m) (by simpa [List.idxOf] using hm)
      simp at hq this
      exact absurd hq this
theorem inIs_pls {st : Sto} (q : Place) (xs : List Place) : InIs st (.tup (q.map DV.int)) (xs.map encP) (decide (q ∈ xs)) :=
  inIs_plain (plain_encP q) (plains_encP xs) (by show deep (encP q) ≤ 64; rw [deep_encP]; decide) (Nat.le_trans (deeps_encP _) (by decide)) (by
    rw [decide_eq_true_eq, List.mem_map]
    exact ⟨fun h => ⟨q, h, rfl⟩, fun ⟨y, h, e⟩ => encP_inj e ▸ h⟩)
theorem eqIs_pl {st : Sto} (p q : Place) : EqIs st (.tup (p.map DV.int)) (.tup (q.map DV.int)) (decide (p = q)) :=
  eqIs_plain (plain_encP p) (plain_encP q) (by show deep (encP p) ≤ 64; rw [deep_encP]; decide) (by show deep (encP q) ≤ 64; rw [deep_encP]; decide) (by
    rw [decide_eq_true_eq]
    constructor
    · rintro rfl; rfl
    · intro h; exact encP_inj h)
theorem cutD_last (ds : List DV) : cutD ds none (some (-1)) = ds.dropLast := by
  rcases Nat.eq_zero_or_pos ds.length with h | h
  · rw [List.length_eq_zero_iff.mp h]; rfl
  · have e : HT.sIx ds.length ds.length (some (-1)) = ds.length - 1 := by
      unfold HT.sIx
      simp
      omega
    unfold cutD
    rw [e, List.dropLast_eq_take]
    simp [HT.sIx]
end
end Sw

namespace Sw
open PySem PySem.Spec PyProof.Rows L2
local macro_rules
  | `(tactic| erw [$rs,*]) => do
    let ts ← rs.getElems.mapM fun r => match r with | `(Lean.Parser.Tactic.rwRule| $t:term) => pure t | _ => Lean.Macro.throwUnsupported
    `(tactic| (try simp only [sSeq, indexD_r, indexL_s, insertD_r, insertL_l, popAtD_r, popAtL_l, extD_r, ngoD_r, ngoL_s, npopD_r, npopL_s, npopO_s, lenDicD_r, lenDicL_s, reprD_r, reprD_t, dictPD_r, dictPL_s, dictPO_s, mNDisp_eq, ndispL_s, sortDicD_r, sortDicL_s, mRev_eq, revR_r, revL_s, mulTD_ti, isBlD_b, sPar_eq, parV_2, sortD_r, sortL_s, mNget_eq, ngetR_r, ngetL_s, ngetO_s, ninD_r, ninL_s, nsetD_r, nsetL_s, nsdD_r, nsdL_s, nsdO_s, nsdO_n, isDic_r, mNnew_eq, mKnew_eq, ksetD_r, ksetL_s, kinD_r, kinL_s, mFld_eq, fldR_r, fldL_s, fldO_s, sFldD_eq, setFR_r, setFL_s, mMeth_eq, insR_r, insL_s, mMake_eq, sLockD_eq, lockR_r, lockL_s, iDic_eq, rodV_r, rodL_s, dicAt_same, Option.isSome_some, mSortSet_eq, srtSetV_r, srtSetL_s, sNx, sDrop, sRet, sRetN, sIf, sAsg, sBk, sCt, mVar_eq, varV_s, mC, mOp, mTest_eq, tstV_b, mAnd, mOr, mNot, mAndV_eq, mOrV_eq, andV_b, mNotV_eq, notV_b, mIf, mNeg_eq, negV_i, mChain_eq, mIsi_eq, isiV_s, tyOf_t, tyOf_i, tyOf_s, tyOf_b, tyOf_n, tyOf_r, tyO_l, tyO_r, aNil, aCons, mTup, mLst, mCal, mMet, oNone, oSome_eq, oV_i, mSl, gNm, gNl_n, gCn_c, gTp_t, gSb, mCall, List.getD_cons_zero, List.getD_cons_succ, addD_ii, addD_ss, addD_tt, addD_rr, addL_ll, subD_ii, mulD_ii, mulD_ri, mulL_l, modD_ii, fdivD_ii, powD_ii, cmpD_ii, ltD_ii, ltD_tt, ltI_ss, isNon_n, isNon_i, isNon_s, isNon_t, isNon_r, isNon_b, notNon_n, notNon_i, notNon_s, notNon_t, notNon_r, notNon_b, eqD_ii, eqD_ss, eqD_bb, eqD_tt, eqD_rr, eqD_tr, eqD_rt, neD_ii, neD_ss, neD_bb, neD_tt, neD_rr, neD_tr, neD_rt, ixD_ri, ixL_s, ixO_s, ixD_ti, ixD_si, ixC_s, slD_r, slL_s, slD_t, slD_s, inD_t, inF_ss, inD_r, inL_t, lenD_r, lenL_s, lenD_t, lenD_s, listD_r, listL_s, listD_t, tupleD_r, tupleL_s, tupleD_t, min2D_ii, max2D_ii, intD_i, intD_b, boolsD_r, boolsL_s, boolsO_s, isLst_r, isLstO_l, isLstO_r, appendD_r, appendL_l, extendD_r, extendL_l, popD_r, popL_l, reverseD_r, reverseL_l, clearD_r, clearL_l, setLD_r, setLL_l, setLJ_s, mDgetK_eq, dgetR_r, dgetL_k, dgetO_s, keyK_s, keyK_i, mDisp_eq, dispO_s, pCons_eq, pNil_eq, keysK, List.set_cons_zero, List.set_cons_succ, atI_0, atI_1, atI_2, atI_3, cut_1, cut_2, str_set, str_add, str_copy, str_look, str_row, str_both, str_lend, str_wait, decide_eq_true_eq, mYes, sFor, iSeq_eq, seqV_r, seqL_s, seqV_t, seqV_s, iRange1_eq, rngV1_i, iRange2_eq, rngV2_i, iEnumD_eq, enV_r, enL_s, enV_t, iZipD_eq, zpV_r, zpL_s, lockS_nil, outD, unlockS_nil, lstAt_same, put_same, startD, List.map_cons, List.map_nil, List.length_cons, List.length_nil, Nat.reduceAdd, Nat.reduceSub, Nat.zero_add, List.replicate_succ, List.replicate_zero, List.cons_append, List.nil_append, true_and, if_true, if_false, Bool.false_eq_true, $[$ts:term],*]))
local macro_rules
  | `(tactic| rwa [$rs,*]) => do
    let ts ← rs.getElems.mapM fun r => match r with | `(Lean.Parser.Tactic.rwRule| $t:term) => pure t | _ => Lean.Macro.throwUnsupported
    `(tactic| (try simp only [indexD_r, indexL_s, insertD_r, insertL_l, popAtD_r, popAtL_l, extD_r, ngoD_r, ngoL_s, npopD_r, npopL_s, npopO_s, lenDicD_r, lenDicL_s, reprD_r, reprD_t, dictPD_r, dictPL_s, dictPO_s, mNDisp_eq, ndispL_s, sortDicD_r, sortDicL_s, mRev_eq, revR_r, revL_s, mulTD_ti, isBlD_b, sPar_eq, parV_2, sortD_r, sortL_s, mNget_eq, ngetR_r, ngetL_s, ngetO_s, ninD_r, ninL_s, nsetD_r, nsetL_s, nsdD_r, nsdL_s, nsdO_s, nsdO_n, isDic_r, mNnew_eq, mKnew_eq, ksetD_r, ksetL_s, kinD_r, kinL_s, mFld_eq, fldR_r, fldL_s, fldO_s, sFldD_eq, setFR_r, setFL_s, mMeth_eq, insR_r, insL_s, mMake_eq, sLockD_eq, lockR_r, lockL_s, iDic_eq, rodV_r, rodL_s, dicAt_same, Option.isSome_some, mSortSet_eq, srtSetV_r, srtSetL_s, sNx, sDrop, sRet, sRetN, sIf, sAsg, sBk, sCt, mVar_eq, varV_s, mC, mOp, mTest_eq, tstV_b, mAnd, mOr, mNot, mAndV_eq, mOrV_eq, andV_b, mNotV_eq, notV_b, mIf, mNeg_eq, negV_i, mChain_eq, mIsi_eq, isiV_s, tyOf_t, tyOf_i, tyOf_s, tyOf_b, tyOf_n, tyOf_r, tyO_l, tyO_r, aNil, aCons, mTup, mLst, mCal, mMet, oNone, oSome_eq, oV_i, mSl, gNm, gNl_n, gCn_c, gTp_t, gSb, mCall, List.getD_cons_zero, List.getD_cons_succ, addD_ii, addD_ss, addD_tt, addD_rr, addL_ll, subD_ii, mulD_ii, mulD_ri, mulL_l, modD_ii, fdivD_ii, powD_ii, cmpD_ii, ltD_ii, ltD_tt, ltI_ss, isNon_n, isNon_i, isNon_s, isNon_t, isNon_r, isNon_b, notNon_n, notNon_i, notNon_s, notNon_t, notNon_r, notNon_b, eqD_ii, eqD_ss, eqD_bb, eqD_tt, eqD_rr, eqD_tr, eqD_rt, neD_ii, neD_ss, neD_bb, neD_tt, neD_rr, neD_tr, neD_rt, ixD_ri, ixL_s, ixO_s, ixD_ti, ixD_si, ixC_s, slD_r, slL_s, slD_t, slD_s, inD_t, inF_ss, inD_r, inL_t, lenD_r, lenL_s, lenD_t, lenD_s, listD_r, listL_s, listD_t, tupleD_r, tupleL_s, tupleD_t, min2D_ii, max2D_ii, intD_i, intD_b, boolsD_r, boolsL_s, boolsO_s, isLst_r, isLstO_l, isLstO_r, appendD_r, appendL_l, extendD_r, extendL_l, popD_r, popL_l, reverseD_r, reverseL_l, clearD_r, clearL_l, setLD_r, setLL_l, setLJ_s, mDgetK_eq, dgetR_r, dgetL_k, dgetO_s, keyK_s, keyK_i, mDisp_eq, dispO_s, pCons_eq, pNil_eq, keysK, List.set_cons_zero, List.set_cons_succ, atI_0, atI_1, atI_2, atI_3, cut_1, cut_2, str_set, str_add, str_copy, str_look, str_row, str_both, str_lend, str_wait, decide_eq_true_eq, mYes, sFor, iSeq_eq, seqV_r, seqL_s, seqV_t, seqV_s, iRange1_eq, rngV1_i, iRange2_eq, rngV2_i, iEnumD_eq, enV_r, enL_s, enV_t, iZipD_eq, zpV_r, zpL_s, lockS_nil, outD, unlockS_nil, lstAt_same, put_same, startD, List.map_cons, List.map_nil, List.length_cons, List.length_nil, Nat.reduceAdd, Nat.reduceSub, Nat.zero_add, List.replicate_succ, List.replicate_zero, List.cons_append, List.nil_append, true_and, if_true, if_false, Bool.false_eq_true, $[$ts:term],*]))
def topS (i : Nat) : Stmt := PySem.Challenge.pw_sidework_k14_whole_before_in_each_weave.main.body.getD i (.Pass ⟨0, 0, 0, 0⟩)
section
variable {P : Program} {w : World} {K : PySem.W.Frag} {mg : Str → Option Value} {base : Heap}
--@DICT * known
/-! ### the law's own books: cells, tapes, digits -/
theorem atI_ints {ns : List Int} {k : Int} (h0 : 0 ≤ k) (h : k < (ns.length : Int)) : ∃ v, L2.atI (ns.map DV.int) k = some (.int v) := by
  have hk : k.toNat < ns.length := by omega
  have ek : k = ((k.toNat : Nat) : Int) := by omega
  have q : L2.atI (ns.map DV.int) ((k.toNat : Nat) : Int) = some (.int ns[k.toNat]) := atI_nat (by rw [List.getElem?_map, List.getElem?_eq_getElem hk]; rfl)
  rw [← ek] at q
  exact ⟨_, q⟩
abbrev s__law_cell_at : Stmt := (topS 11)
abbrev N__law_cell_at : List Str := ["script", "k"]
theorem sc__law_cell_at : FnScope N__law_cell_at ["script", "k"] (defScope s__law_cell_at) := ⟨rfl, rfl, rfl, by decide +kernel, rfl, by decide +kernel, by decide +kernel⟩
def spCellAt : DSp := fun ds st Q _ => ∃ (a : Addr) (k : Int) (ns : List Int), ds = [.ref a, .int k] ∧ lstAt st a = some (ns.map DV.int) ∧ 0 ≤ k ∧ ∀ v, Q (.int v) st
theorem cal_cell_at (D : Def K mg "_law_cell_at" s__law_cell_at ["script", "k"]) (b_len : mg "len" = none) : Cal P w K mg base 1 "_law_cell_at" ["script", "k"] spCellAt := by
  refine cal_ok D sc__law_cell_at (fun f cdv A outer s0 H E hr => (dss_cons (ds_if (dt_cmp (op_ltU hr.units0) dop_lt (de_var 1) (de_b call_len dc_len b_len PySem.boot_len (da_cons (de_var 0) da_nil)) (nomark _)) (dss_one (ds_ret (de_ix (de_var 0) (de_var 1) (fun _ _ => rfl)))) dss_nil)
      (dss_one (ds_ret de_int)))) ?_
  rintro _ st Q W ⟨a, k, ns, rfl, hl, h0, q⟩
  refine ⟨rfl, ?_⟩
  erw [hl, List.length_map]
  split
  · rename_i h
    obtain ⟨v, e⟩ := atI_ints h0 h
    simp only [e]
    exact Rt.of (q v)
  · exact Rt.of (q 0)
abbrev s__law_tape : Stmt := (topS 12)
abbrev N__law_tape : List Str := ["script", "k", "cell", "p", "one", "two", "three", "four", "five"]
theorem sc__law_tape : FnScope N__law_tape ["script", "k"] (defScope s__law_tape) := ⟨rfl, rfl, rfl, by decide +kernel, rfl, by decide +kernel, by decide +kernel⟩
def spTape : DSp := fun ds st Q _ => ∃ (a : Addr) (k : Int) (ns : List Int), ds = [.ref a, .int k] ∧ lstAt st a = some (ns.map DV.int) ∧ 0 ≤ k ∧ ∀ n b, st b = none → Q (.ref b) (put st b (.lst [.int n]))
theorem cal_tape (D : Def K mg "_law_tape" s__law_tape ["script", "k"]) (C__law_cell_at : Cal P w K mg base 1 "_law_cell_at" ["script", "k"] spCellAt) : Cal P w K mg base 2 "_law_tape" ["script", "k"] spTape := by
  refine cal_ok D sc__law_tape (fun f cdv A outer s0 H E hr => (dss_cons (ds_set 2 sc__law_tape.nd (de_c C__law_cell_at hr (passes_call (takes_of rfl rfl rfl rfl) (fun _ _ _ _ h => h)) (da_cons (de_var 0) (da_cons (de_var 1) da_nil))))
      (dss_cons (ds_if (dt_cmp (op_eqU hr.units) dop_eq (de_var 2) de_int (nomark _)) (dss_one (ds_ret (de_lst (da_cons de_int da_nil)))) dss_nil)
      (dss_cons (ds_if (dt_cmp op_ge (dop_cmp _) (de_var 2) (de_op op_pow dop_pow de_int de_int) (nomark _)) (dss_one (ds_ret (de_lst (da_cons (de_op op_sub dop_sub (de_var 2) (de_op op_pow dop_pow de_int de_int)) da_nil)))) dss_nil)
      (dss_cons (ds_set 3 sc__law_tape.nd de_int)
      (dss_cons (ds_set 4 sc__law_tape.nd (de_op op_mod dop_mod (de_op op_addU dop_add (de_op op_addU dop_add (de_op op_mulU dop_mul (de_var 2) de_int) (de_op op_mulU dop_mul de_int (de_var 1))) de_int) (de_var 3)))
      (dss_cons (ds_set 5 sc__law_tape.nd (de_op op_mod dop_mod (de_op op_addU dop_add (de_op op_addU dop_add (de_op op_mulU dop_mul (de_var 4) (de_var 4)) (de_op op_mulU dop_mul de_int (de_var 1))) (de_var 4)) (de_var 3)))
      (dss_cons (ds_set 6 sc__law_tape.nd (de_op op_mod dop_mod (de_op op_addU dop_add (de_op op_mulU dop_mul (de_var 5) (de_var 5)) (de_var 4)) (de_var 3)))
      (dss_cons (ds_set 7 sc__law_tape.nd (de_op op_mod dop_mod (de_op op_addU dop_add (de_op op_mulU dop_mul (de_var 6) (de_var 6)) (de_var 5)) (de_var 3)))
      (dss_cons (ds_set 8 sc__law_tape.nd (de_op op_mod dop_mod (de_op op_addU dop_add (de_op op_mulU dop_mul (de_var 7) (de_var 7)) (de_var 6)) (de_var 3)))
      (dss_one (ds_ret (de_lst (da_cons (de_op op_addU dop_add (de_op op_mulU dop_mul (de_op op_addU dop_add (de_op op_mulU dop_mul (de_op op_addU dop_add (de_op op_mulU dop_mul (de_op op_addU dop_add (de_op op_mulU dop_mul (de_var 4) (de_var 3)) (de_var 5)) (de_var 3)) (de_var 6)) (de_var 3)) (de_var 7)) (de_var 3)) (de_var 8)) da_nil)))))))))))))) ?_
  rintro _ st Q W ⟨a, k, ns, rfl, hl, h0, q⟩
  refine ⟨rfl, ?_⟩
  erw [True.intro]
  refine ⟨a, k, ns, rfl, hl, h0, fun v => ?_⟩
  erw [True.intro]
  have p18 : CPow 10 18 := ⟨by decide, by decide, by decide⟩
  have cm : ∀ i j : Int, -(2 ^ 64) < j → j < 2 ^ 64 → CMul i j := fun i j a b => .inr ⟨a, b⟩
  have s1 : 1 ≤ sizeLine := by decide
  have fin : ∀ n, ∀ p, st p = none → Rt Q (.ref p) (put st p (.lst [.int n])) := fun n p hp => Rt.of (q n p hp)
  split
  · exact ⟨s1, fin 0⟩
  · refine ⟨p18, ?_⟩
    split
    · exact ⟨p18, s1, fin _⟩
    · have hm : ∀ x : Int, 0 ≤ x % 2305843009213693951 ∧ x % 2305843009213693951 < 2305843009213693951 := fun x => ⟨Int.emod_nonneg _ (by decide), Int.emod_lt_of_pos _ (by decide)⟩
      refine ⟨cm _ _ (by decide) (by decide), .inl ⟨by decide, by decide⟩, by decide, ?_⟩
      generalize hx1 : (v * 48271 + 69621 * k + 29) % 2305843009213693951 = x1
      have y1 := hx1 ▸ hm (v * 48271 + 69621 * k + 29)
      refine ⟨cm _ _ (by omega) (by omega), .inl ⟨by decide, by decide⟩, by decide, ?_⟩
      generalize hx2 : (x1 * x1 + 40692 * k + x1) % 2305843009213693951 = x2
      have y2 := hx2 ▸ hm (x1 * x1 + 40692 * k + x1)
      refine ⟨cm _ _ (by omega) (by omega), by decide, ?_⟩
      generalize hx3 : (x2 * x2 + x1) % 2305843009213693951 = x3
      have y3 := hx3 ▸ hm (x2 * x2 + x1)
      refine ⟨cm _ _ (by omega) (by omega), by decide, ?_⟩
      generalize hx4 : (x3 * x3 + x2) % 2305843009213693951 = x4
      have y4 := hx4 ▸ hm (x3 * x3 + x2)
      refine ⟨cm _ _ (by omega) (by omega), by decide, cm _ _ (by decide) (by decide), cm _ _ (by decide) (by decide), cm _ _ (by decide) (by decide), cm _ _ (by decide) (by decide), s1, fin _⟩
abbrev s__law_digit : Stmt := (topS 13)
abbrev N__law_digit : List Str := ["tape", "many", "found"]
theorem sc__law_digit : FnScope N__law_digit ["tape", "many"] (defScope s__law_digit) := ⟨rfl, rfl, rfl, by decide +kernel, rfl, by decide +kernel, by decide +kernel⟩
def spDigit : DSp := fun ds st Q _ => ∃ (a : Addr) (n many : Int), ds = [.ref a, .int many] ∧ st a = some (.lst [.int n]) ∧ 0 < many ∧ many < 1073741824 ∧ ∀ d m, 0 ≤ d → d < many → Q (.int d) (put st a (.lst [.int m]))
theorem cal_digit (D : Def K mg "_law_digit" s__law_digit ["tape", "many"]) : Cal P w K mg base 1 "_law_digit" ["tape", "many"] spDigit := by
  refine cal_ok D sc__law_digit (fun f cdv A outer s0 H E hr => (dss_cons (ds_set 2 sc__law_digit.nd (de_op op_mod dop_mod (de_ix (de_var 0) de_int (fun _ _ => rfl)) (de_var 1)))
      (dss_cons (ds_asg (de_op op_fdiv dop_fdiv (de_ix (de_var 0) de_int (fun _ _ => rfl)) (de_var 1)) (dg_sub set_list dset_list (de_var 0) de_int))
      (dss_one (ds_ret (de_var 2)))))) ?_
  rintro _ st Q W ⟨a, n, many, rfl, hl, h0, h1, q⟩
  refine ⟨rfl, ?_⟩
  have hl' : lstAt st a = some [.int n] := by simp [lstAt, hl]
  erw [hl, hl']
  have e : ixN 1 0 = some 0 := by decide
  simp only [e]
  exact ⟨h0, ⟨h0, h1⟩, Rt.of (q _ _ (Int.emod_nonneg _ (by omega)) (Int.emod_lt_of_pos _ h0))⟩

theorem rangeD_drop {lo : Int} {n i : Nat} (h : i < n) : (rangeD lo n).drop i = .int (lo + (i : Nat)) :: (rangeD lo n).drop (i + 1) := by
  have hl : i < (rangeD lo n).length := by simp [rangeD]; exact h
  rw [List.drop_eq_getElem_cons hl]
  congr 1
  simp [rangeD]
theorem rangeD_end {lo : Int} {n i : Nat} (h : n ≤ i) : (rangeD lo n).drop i = [] := List.drop_eq_nil_of_le (by simp [rangeD]; exact h)
theorem rangeD_at {lo : Int} {n i : Nat} {d : DV} {r : List DV} (hi : i ≤ n) (h : d :: r = (rangeD lo n).drop i) : i < n ∧ d = .int (lo + (i : Nat)) ∧ r = (rangeD lo n).drop (i + 1) := by
  by_cases hlt : i < n
  · rw [rangeD_drop hlt] at h
    cases h
    exact ⟨hlt, rfl, rfl⟩
  · rw [rangeD_end (by omega)] at h; cases h
theorem rangeD_fin {lo : Int} {n i : Nat} (hi : i ≤ n) (h : [] = (rangeD lo n).drop i) : i = n := by
  by_cases hlt : i < n
  · rw [rangeD_drop hlt] at h; cases h
  · omega
theorem ixN_nat {n i : Nat} (h : i < n) : ixN n (i : Int) = some i := by
  unfold ixN
  rw [if_pos (by omega), if_pos (by omega)]
  simp
theorem sum_set {xs : List Int} {i : Nat} {v : Int} (h : i < xs.length) : (xs.set i v).sum = xs.sum - xs[i] + v := by
  induction xs generalizing i with
  | nil => simp at h
  | cons x xs ih =>
    cases i with
    | zero => simp; omega
    | succ i =>
      simp only [List.set_cons_succ, List.sum_cons, List.getElem_cons_succ]
      rw [ih (by simpa using h)]; omega
abbrev s__law_shares : Stmt := (topS 14)
abbrev N__law_shares : List Str := ["tape", "room", "many", "found", "left", "k", "more"]
theorem sc__law_shares : FnScope N__law_shares ["tape", "room", "many"] (defScope s__law_shares) := ⟨rfl, rfl, rfl, by decide +kernel, rfl, by decide +kernel, by decide +kernel⟩
def spShares : DSp := fun ds st Q _ => ∃ (a : Addr) (n room many : Int), ds = [.ref a, .int room, .int many] ∧ st a = some (.lst [.int n]) ∧ 0 ≤ many ∧ many ≤ room ∧ room ≤ 100 ∧
  ∀ (xs : List Int) (m : Int) (b : Addr), (xs.length : Int) = many → (∀ x ∈ xs, 1 ≤ x) → xs.sum ≤ room → st b = none → Q (.ref b) (put (put st a (.lst [.int m])) b (.lst (xs.map DV.int)))
theorem cal_shares (D : Def K mg "_law_shares" s__law_shares ["tape", "room", "many"]) (b_range : mg "range" = none) (C__law_digit : Cal P w K mg base 1 "_law_digit" ["tape", "many"] spDigit) : Cal P w K mg base 2 "_law_shares" ["tape", "room", "many"] spShares := by
  refine cal_ok D sc__law_shares (fun f cdv A outer s0 H E hr => (dss_cons (ds_set 3 sc__law_shares.nd (de_op op_mulU dop_mul (de_lst (da_cons de_int da_nil)) (de_var 2)))
      (dss_cons (ds_set 4 sc__law_shares.nd (de_op op_sub dop_sub (de_var 1) (de_var 2)))
      (dss_cons (ds_for (passes_of rfl) rfl (di_range1 b_range (da_cons (de_var 2) da_nil)) (dg_name 5 sc__law_shares.nd) (dss_cons (ds_set 6 sc__law_shares.nd (de_c C__law_digit hr (passes_call (takes_of rfl rfl rfl rfl) (fun _ _ _ _ h => h)) (da_cons (de_var 0) (da_cons (de_op op_addU dop_add (de_var 4) de_int) da_nil))))
      (dss_cons (ds_asg (de_op op_addU dop_add (de_ix (de_var 3) (de_var 5) (fun _ _ => rfl)) (de_var 6)) (dg_sub set_list dset_list (de_var 3) (de_var 5)))
      (dss_one (ds_set 4 sc__law_shares.nd (de_op op_sub dop_sub (de_var 4) (de_var 6)))))))
      (dss_one (ds_ret (de_var 3))))))) ?_
  rintro _ st Q W ⟨a, n, room, many, rfl, ha, h0, h1, h2, q⟩
  refine ⟨rfl, ?_⟩
  erw [True.intro]
  refine ⟨small (by decide), fun l hl => ?_⟩
  refine ⟨⟨by omega, by omega, small (by simp; omega)⟩, fun b hb => ⟨⟨by omega, by omega⟩, ?_⟩⟩
  obtain ⟨nbl, hb'⟩ := ne_put hb
  have nab : a ≠ b := ne_some ha hb'
  have nal : a ≠ l := ne_some ha hl
  have hrep : (List.replicate many.toNat [DV.int 1]).flatten = (List.replicate many.toNat (1 : Int)).map DV.int := by
    generalize many.toNat = k
    induction k with
    | zero => rfl
    | succ k ih => rw [List.replicate_succ, List.flatten_cons, ih]; rfl
  have hsum : ∀ k : Nat, (List.replicate k (1 : Int)).sum = k := by
    intro k
    induction k with
    | zero => rfl
    | succ k ih => rw [List.replicate_succ, List.sum_cons, ih]; omega
  refine forL_by (fun rest ρ st1 => ∃ (i : Nat) (xs : List Int) (left m : Int) (x5 x6 : Option DV), rest = (rangeD 0 many.toNat).drop i ∧ i ≤ many.toNat ∧ ρ = [some (.ref a), some (.int room), some (.int many), some (.ref b), some (.int left), x5, x6] ∧
    xs.length = many.toNat ∧ (∀ x ∈ xs, 1 ≤ x) ∧ 0 ≤ left ∧ xs.sum + left ≤ room ∧ xs.sum ≤ room ∧ left ≤ room ∧ st1 a = some (.lst [.int m]) ∧ st1 b = some (.lst (xs.map DV.int)) ∧ ∀ c o, st c = some o → c ≠ a → st1 c = some o)
    ?_ ?_ _ _ _ ⟨0, List.replicate many.toNat 1, room - many, n, none, none, by simp, Nat.zero_le _, rfl, by simp, fun x hx => by rw [List.eq_of_mem_replicate hx]; decide, by omega, by rw [hsum]; omega, by rw [hsum]; omega, by omega, by rw [put_ne nab, put_ne nal]; exact ha, by rw [put_same, hrep], fun c o hc hca => ?_⟩
  · rintro d r ρ st1 ⟨i, xs, left, m, x5, x6, e, hi, rfl, hlen, hge, hleft, hs, hs2, hle, ea, eb, hc⟩ ih
    obtain ⟨hlt, rfl, rfl⟩ := rangeD_at hi e
    erw [True.intro]
    refine ⟨a, m, left + 1, rfl, ea, by omega, by omega, fun g m' hg0 hg1 => ?_⟩
    have hbl : lstAt (put st1 a (.lst [.int m'])) b = some (xs.map DV.int) := by simp [lstAt, put_ne (Ne.symm nab), eb]
    have hix : i < xs.length := by omega
    have hat : L2.atI (xs.map DV.int) (0 + (i : Int)) = some (.int xs[i]) := by rw [Int.zero_add]; exact atI_nat (by rw [List.getElem?_map, List.getElem?_eq_getElem hix]; rfl)
    have hixn : ixN (xs.map DV.int).length (0 + (i : Int)) = some i := by rw [Int.zero_add]; exact ixN_nat (by simpa using hix)
    erw [hbl, hat, put_ne (Ne.symm nab), eb, hixn]
    have hxi : 1 ≤ xs[i] := hge _ (List.getElem_mem hix)
    refine ih _ _ ⟨i + 1, xs.set i (xs[i] + g), left - g, m', _, _, rfl, by omega, rfl, by simpa using hlen, fun x hx => ?_, by omega, by rw [sum_set hix]; omega, by rw [sum_set hix]; omega, by omega, by rw [put_ne nab, put_same], by rw [put_same, List.map_set], fun c o hc1 hc2 => ?_⟩
    · rcases List.mem_or_eq_of_mem_set hx with h | h
      · exact hge x h
      · omega
    · have h3 : c ≠ b := ne_some hc1 hb'
      rw [put_ne h3, put_ne hc2]; exact hc c o hc1 hc2
  · rintro ρ st1 ⟨i, xs, left, m, x5, x6, e, hi, rfl, hlen, hge, hleft, hs, hs2, hle, ea, eb, hc⟩
    have hfin := rangeD_fin hi e
    erw [True.intro]
    refine ⟨_, fun c o h => ?_, q xs m b (by omega) hge hs2 hb'⟩
    by_cases hcb : c = b
    · subst hcb; rw [put_same] at h; cases h; exact eb
    · rw [put_ne hcb] at h
      by_cases hca : c = a
      · subst hca; rw [put_same] at h; cases h; exact ea
      · rw [put_ne hca] at h; exact hc c o h hca
  · have h3 : c ≠ b := ne_some hc hb'
    rw [put_ne h3, put_ne (ne_some hc hl)]; exact hc

/-! ### the law's own books: terms -/
/-- the law's known: how many cells, the hands that are left -/
def KnownAt (st : Sto) (kd : Addr) (c : Int) (h : Addr) (hs : List Int) : Prop := st kd = some (.dck [(.inr "cells", .int c), (.inr "hands", .ref h)]) ∧ st h = some (.lst (hs.map DV.int))
theorem look_cells (x y : DV) : lookK [(.inr (Str.ofString "cells"), x), (.inr (Str.ofString "hands"), y)] (.inr (Str.ofString "cells")) = some x := by simp [lookK]
theorem look_hands (x y : DV) : lookK [(.inr (Str.ofString "cells"), x), (.inr (Str.ofString "hands"), y)] (.inr (Str.ofString "hands")) = some y := by
  have e : ¬ (Sum.inr (Str.ofString "cells") : Key) = Sum.inr (Str.ofString "hands") := by decide +kernel
  simp [lookK, List.find?_cons, e]
/-- one of four, of nine .. written texts -/
theorem digit_cases4 {d : Int} (h0 : 0 ≤ d) (h1 : d < 4) : d = 0 ∨ d = 1 ∨ d = 2 ∨ d = 3 := by omega
abbrev s__law_deed : Stmt := (topS 15)
abbrev N__law_deed : List Str := ["tape", "known", "word", "x"]
theorem sc__law_deed : FnScope N__law_deed ["tape", "known"] (defScope s__law_deed) := ⟨rfl, rfl, rfl, by decide +kernel, rfl, by decide +kernel, by decide +kernel⟩
def spDeed : DSp := fun ds st Q _ => ∃ (a kd h : Addr) (n c : Int) (hs : List Int), ds = [.ref a, .ref kd] ∧ st a = some (.lst [.int n]) ∧ KnownAt st kd c h hs ∧ 1 ≤ c ∧ c ≤ 6 ∧
  ∀ (t : Tm) (m : Int), Made c t → t.w.deed = true → t.ps = [] → Q (enc t) (put st a (.lst [.int m]))
theorem cal_deed (D : Def K mg "_law_deed" s__law_deed ["tape", "known"]) (C__law_digit : Cal P w K mg base 1 "_law_digit" ["tape", "many"] spDigit) : Cal P w K mg base 2 "_law_deed" ["tape", "known"] spDeed := by
  refine cal_ok D sc__law_deed (fun f cdv A outer s0 H E hr => (dss_cons (ds_set 2 sc__law_deed.nd (de_ix (de_lst (da_cons de_str (da_cons de_str (da_cons de_str (da_cons de_str da_nil))))) (de_c C__law_digit hr (passes_call (takes_of rfl rfl rfl rfl) (fun _ _ _ _ h => h)) (da_cons (de_var 0) (da_cons de_int da_nil))) (fun _ _ => rfl)))
      (dss_cons (ds_set 3 sc__law_deed.nd (de_c C__law_digit hr (passes_call (takes_of rfl rfl rfl rfl) (fun _ _ _ _ h => h)) (da_cons (de_var 0) (da_cons (de_dget (hu_of hr) (de_var 1) de_str) da_nil))))
      (dss_cons (ds_if (dt_cmp (op_eqU hr.units) dop_eq (de_var 2) de_str (nomark _)) (dss_one (ds_ret (de_tup (da_cons de_str (da_cons (de_var 3) (da_cons (de_c C__law_digit hr (passes_call (takes_of rfl rfl rfl rfl) (fun _ _ _ _ h => h)) (da_cons (de_var 0) (da_cons de_int da_nil))) da_nil)))))) dss_nil)
      (dss_one (ds_ret (de_tup (da_cons (de_var 2) (da_cons (de_var 3) (da_cons (de_c C__law_digit hr (passes_call (takes_of rfl rfl rfl rfl) (fun _ _ _ _ h => h)) (da_cons (de_var 0) (da_cons (de_dget (hu_of hr) (de_var 1) de_str) da_nil))) da_nil)))))))))) ?_
  rintro _ st Q W ⟨a, kd, h, n, c, hs, rfl, ha, ⟨hk, hh⟩, c1, c6, q⟩
  refine ⟨rfl, ?_⟩
  erw [True.intro]
  refine ⟨small (by decide), fun l hl => ?_⟩
  have nal : a ≠ l := ne_some ha hl
  have nkl : kd ≠ l := ne_some hk hl
  have nka : kd ≠ a := by rintro rfl; rw [ha] at hk; cases hk
  refine ⟨a, n, 4, rfl, by rw [put_ne nal]; exact ha, by decide, by decide, fun d m d0 d1 => ?_⟩
  have hll : lstAt (put (put st l (.lst [.str (Str.ofString "set"), .str (Str.ofString "add"), .str (Str.ofString "copy"), .str (Str.ofString "add")])) a (.lst [.int m])) l = some [.str (Str.ofString "set"), .str (Str.ofString "add"), .str (Str.ofString "copy"), .str (Str.ofString "add")] := by simp [lstAt, put_ne (Ne.symm nal), put_same]
  have hk2 : ∀ m, (put (put st l (.lst [.str (Str.ofString "set"), .str (Str.ofString "add"), .str (Str.ofString "copy"), .str (Str.ofString "add")])) a (.lst [.int m])) kd = some (.dck [(.inr "cells", .int c), (.inr "hands", .ref h)]) := fun m => by rw [put_ne nka, put_ne nkl]; exact hk
  obtain ⟨word, hw, hat⟩ : ∃ word : Wd, (word = .set ∨ word = .add ∨ word = .copy) ∧ L2.atI [DV.str (Str.ofString "set"), .str (Str.ofString "add"), .str (Str.ofString "copy"), .str (Str.ofString "add")] d = some (.str word.str) := by
    rcases digit_cases4 d0 d1 with rfl | rfl | rfl | rfl
    · exact ⟨.set, by simp, atI_0 _ _⟩
    · exact ⟨.add, by simp, atI_1 _ _ _⟩
    · exact ⟨.copy, by simp, atI_2 _ _ _ _⟩
    · exact ⟨.add, by simp, atI_3 _ _ _ _ _⟩
  erw [hll, hat, hk2, look_cells]
  refine ⟨a, m, c, rfl, put_same, by omega, by omega, fun x m2 x0 x1 => ?_⟩
  rw [put_put]
  erw [True.intro]
  have fin : ∀ (v m3 : Int), (if word = .set then 0 ≤ v ∧ v < 10 else 0 ≤ v ∧ v < c) → Rt Q (.tup [.str word.str, .int x, .int v]) (put (put st l (.lst [.str (Str.ofString "set"), .str (Str.ofString "add"), .str (Str.ofString "copy"), .str (Str.ofString "add")])) a (.lst [.int m3])) := by
    intro v m3 hv
    refine ⟨_, fun e o he => ?_, q (.mk word [x, v] []) m3 ?_ ?_ rfl⟩
    · by_cases hea : e = a
      · subst hea; rw [put_same] at he ⊢; exact he
      · rw [put_ne hea] at he ⊢; rw [put_ne (ne_some he hl)]; exact he
    · rcases hw with rfl | rfl | rfl <;> simp_all [Made, MadeL, numsOk, partsN]
    · rcases hw with rfl | rfl | rfl <;> rfl
  split
  · rename_i e
    subst e
    refine ⟨a, m2, 10, rfl, put_same, by decide, by decide, fun v m3 v0 v1 => ?_⟩
    rw [put_put]
    exact ⟨small (by decide), fin v m3 ⟨v0, v1⟩⟩
  · rename_i e
    erw [hk2, look_cells]
    refine ⟨a, m2, c, rfl, put_same, by omega, by omega, fun v m3 v0 v1 => ?_⟩
    rw [put_put]
    exact ⟨small (by decide), fin v m3 (by rw [if_neg e]; exact ⟨v0, v1⟩)⟩

abbrev s__law_leaf : Stmt := (topS 16)
abbrev N__law_leaf : List Str := ["tape", "known", "around", "way"]
theorem sc__law_leaf : FnScope N__law_leaf ["tape", "known", "around"] (defScope s__law_leaf) := ⟨rfl, rfl, rfl, by decide +kernel, rfl, by decide +kernel, by decide +kernel⟩
def spLeaf : DSp := fun ds st Q _ => ∃ (a kd h ar : Addr) (n c : Int) (hs around : List Int), ds = [.ref a, .ref kd, .ref ar] ∧ st a = some (.lst [.int n]) ∧ KnownAt st kd c h hs ∧ 1 ≤ c ∧ c ≤ 6 ∧ ar ≠ a ∧ lstAt st ar = some (around.map DV.int) ∧ around.length ≤ 100 ∧ (∀ x ∈ around, 0 ≤ x ∧ x < 10) ∧
  ∀ (t : Tm) (m : Int), Made c t → waits t around = true → lent t = [] → t.ps = [] → t.w ≠ .lend → Q (enc t) (put st a (.lst [.int m]))
theorem cal_leaf (D : Def K mg "_law_leaf" s__law_leaf ["tape", "known", "around"]) (b_len : mg "len" = none) (C__law_digit : Cal P w K mg base 1 "_law_digit" ["tape", "many"] spDigit) (C__law_deed : Cal P w K mg base 2 "_law_deed" ["tape", "known"] spDeed) : Cal P w K mg base 3 "_law_leaf" ["tape", "known", "around"] spLeaf := by
  refine cal_ok D sc__law_leaf (fun f cdv A outer s0 H E hr => (dss_cons (ds_set 3 sc__law_leaf.nd (de_c C__law_digit hr (passes_call (takes_of rfl rfl rfl rfl) (fun _ _ _ _ h => h)) (da_cons (de_var 0) (da_cons de_int da_nil))))
      (dss_cons (ds_if (dt_cmp (op_eqU hr.units) dop_eq (de_var 3) de_int (nomark _)) (dss_one (ds_ret (de_tup (da_cons de_str da_nil)))) dss_nil)
      (dss_cons (ds_if (dw_dt (dw_and (dt_cmp op_gt (dop_cmp _) (de_var 3) de_int (nomark _)) (dw_and1 (dt_cmp (op_neU hr.units) dop_ne (de_var 2) (de_lst da_nil) (nomark _))))) (dss_one (ds_ret (de_tup (da_cons de_str (da_cons (de_ix (de_var 2) (de_c C__law_digit hr (passes_call (takes_of rfl rfl rfl rfl) (fun _ _ _ _ h => h)) (da_cons (de_var 0) (da_cons (de_b call_len dc_len b_len PySem.boot_len (da_cons (de_var 2) da_nil)) da_nil))) (fun _ _ => rfl)) da_nil))))) dss_nil)
      (dss_one (ds_ret (de_c C__law_deed hr (passes_call (takes_of rfl rfl rfl rfl) (fun _ _ _ _ h => h)) (da_cons (de_var 0) (da_cons (de_var 1) da_nil))))))))) ?_
  rintro _ st Q W ⟨a, kd, h, ar, n, c, hs, around, rfl, ha, ⟨hk, hh⟩, c1, c6, nra, hl, hlen, hr, q⟩
  refine ⟨rfl, ?_⟩
  have nka : kd ≠ a := by rintro rfl; rw [ha] at hk; cases hk
  erw [True.intro]
  refine ⟨a, n, 8, rfl, ha, by decide, by decide, fun way m w0 w1 => ?_⟩
  have nha : h ≠ a ∨ h = a := by by_cases e : h = a <;> simp [e]
  have hK : ∀ m, ∃ h' hs', KnownAt (put st a (.lst [.int m])) kd c h' hs' := fun m => by
    rcases nha with e | e
    · exact ⟨h, hs, by rw [put_ne nka]; exact hk, by rw [put_ne e]; exact hh⟩
    · exact ⟨h, [m], by rw [put_ne nka]; exact hk, by rw [e, put_same]; rfl⟩
  have deed : ∀ st1, (∃ h' hs', KnownAt st1 kd c h' hs') → (∃ m1, st1 a = some (.lst [.int m1])) → (∀ e o, st e = some o → e ≠ a → st1 e = some o) → spDeed [.ref a, .ref kd] st1 (Rt Q) W := by
    rintro st1 ⟨h', hs', k1⟩ ⟨m1, e1⟩ hsub
    refine ⟨a, kd, h', m1, c, hs', rfl, e1, k1, c1, c6, fun t m2 ht hd hp => ⟨_, fun e o he => ?_, q t m2 ht ?_ ?_ hp ?_⟩⟩
    · by_cases hea : e = a
      · subst hea; rw [put_same] at he ⊢; exact he
      · rw [put_ne hea] at he ⊢; exact hsub e o he hea
    · obtain ⟨w, ns, ps⟩ := t
      simp only [Tm.ps] at hp; subst hp
      simp only [Tm.w] at hd
      cases w <;> first | (cases hd; done) | simp [waits, waitsL]
    · obtain ⟨w, ns, ps⟩ := t
      simp only [Tm.ps] at hp; subst hp
      simp only [Tm.w] at hd
      cases w <;> first | (cases hd; done) | simp [lent, lentL]
    · intro e; rw [e] at hd; cases hd
  erw [True.intro]
  split
  · refine ⟨small (by decide), Rt.of ?_⟩
    exact q (.mk .row [] []) m (by simp [Made, MadeL, numsOk, partsN]) (by simp [waits, waitsL]) (by simp [lent, lentL]) rfl (by simp [Tm.w])
  · split
    · refine ⟨small (by decide), fun p hp => ?_⟩
      obtain ⟨npa, hp'⟩ := ne_put hp
      obtain ⟨oar, har⟩ := lstAt_some hl
      have nrp : ar ≠ p := ne_some har hp'
      have l1 : lstAt (put (put st a (.lst [.int m])) p (.lst [])) ar = some (around.map DV.int) := by rw [lstAt_put nrp, lstAt_put nra]; exact hl
      refine ⟨decide (around = []), eqIs_lists l1 lstAt_same (plains_ints _) (by rw [plains]) (by rw [deeps_ints]; decide) (by rw [deeps]; decide) (by simp), ?_⟩
      erw [l1, List.length_map]
      split
      · rename_i he
        have he' : around ≠ [] := by simpa using he
        have hpos : 0 < around.length := List.length_pos_iff.mpr he'
        refine ⟨a, m, _, rfl, by rw [put_ne (Ne.symm npa), put_same], by omega, by omega, fun d m2 d0 d1 => ?_⟩
        have hd : d.toNat < around.length := by omega
        have hat : L2.atI (around.map DV.int) d = some (.int around[d.toNat]) := by
          have ed : d = ((d.toNat : Nat) : Int) := by omega
          have q' : L2.atI (around.map DV.int) ((d.toNat : Nat) : Int) = some (.int around[d.toNat]) := atI_nat (by rw [List.getElem?_map, List.getElem?_eq_getElem hd]; rfl)
          rw [← ed] at q'; exact q'
        have l2 : lstAt (put (put (put st a (.lst [.int m])) p (.lst [])) a (.lst [.int m2])) ar = some (around.map DV.int) := by rw [lstAt_put nra, lstAt_put nrp, lstAt_put nra]; exact hl
        erw [l2, hat]
        have hx := hr _ (List.getElem_mem hd)
        refine ⟨small (by decide), _, fun e o he => ?_, q (.mk .wait [around[d.toNat]] []) m2 ?_ ?_ (by simp [lent, lentL]) rfl (by simp [Tm.w])⟩
        · by_cases hea : e = a
          · subst hea; rw [put_same] at he ⊢; exact he
          · rw [put_ne hea] at he ⊢; rw [put_ne (ne_some he hp'), put_ne hea]; exact he
        · simp [Made, MadeL, numsOk, partsN, hx.1, hx.2]
        · simp [waits]
      · refine deed _ ?_ ⟨m, by rw [put_ne (Ne.symm npa), put_same]⟩ fun e o he hea => by rw [put_ne (ne_some he hp'), put_ne hea]; exact he
        obtain ⟨h', hs', k1, k2⟩ := hK m
        exact ⟨h', hs', by rw [put_ne (ne_some k1 hp)]; exact k1, by rw [put_ne (ne_some k2 hp)]; exact k2⟩
    · exact deed _ (hK m) ⟨m, put_same⟩ fun e o he hea => by rw [put_ne hea]; exact he

/-- the law's state while a book is drawn -/
structure GS (st : Sto) (a kd h : Addr) (c : Int) (hs : List Int) : Prop where
  tape : ∃ n, st a = some (.lst [.int n])
  known : st kd = some (.dck [(.inr "cells", .int c), (.inr "hands", .ref h)])
  hands : st h = some (.lst (hs.map DV.int))
  ne : a ≠ h
def Ch (st st' : Sto) (a h : Addr) : Prop := ∀ e o, st e = some o → e ≠ a → e ≠ h → st' e = some o
section
variable {st st' : Sto} {a kd h : Addr} {c : Int} {hs : List Int}
theorem GS.nka (g : GS st a kd h c hs) : kd ≠ a := by
  rintro rfl; obtain ⟨n, e⟩ := g.tape; rw [g.known] at e; cases e
theorem GS.nkh (g : GS st a kd h c hs) : kd ≠ h := by
  rintro rfl; have e := g.hands; rw [g.known] at e; cases e
theorem GS.draw (g : GS st a kd h c hs) (m : Int) : GS (put st a (.lst [.int m])) a kd h c hs := ⟨⟨m, put_same⟩, by rw [put_ne g.nka]; exact g.known, by rw [put_ne (Ne.symm g.ne)]; exact g.hands, g.ne⟩
theorem GS.keep (g : GS st a kd h c hs) (s : Sub st st') : GS st' a kd h c hs := ⟨let ⟨n, e⟩ := g.tape; ⟨n, s _ _ e⟩, s _ _ g.known, s _ _ g.hands, g.ne⟩
theorem GS.new (g : GS st a kd h c hs) {p : Addr} {o : Ob} (hp : st p = none) : GS (put st p o) a kd h c hs := g.keep (Sub.new hp)
theorem GS.hand (g : GS st a kd h c hs) (hs' : List Int) : GS (put st h (.lst (hs'.map DV.int))) a kd h c hs' := ⟨let ⟨n, e⟩ := g.tape; ⟨n, by rw [put_ne g.ne]; exact e⟩, by rw [put_ne g.nkh]; exact g.known, put_same, g.ne⟩
theorem GS.other (g : GS st a kd h c hs) {b : Addr} {o : Ob} (n1 : b ≠ a) (n2 : b ≠ h) (n3 : b ≠ kd) : GS (put st b o) a kd h c hs := ⟨let ⟨n, e⟩ := g.tape; ⟨n, by rw [put_ne (Ne.symm n1)]; exact e⟩, by rw [put_ne (Ne.symm n3)]; exact g.known, by rw [put_ne (Ne.symm n2)]; exact g.hands, g.ne⟩
theorem Ch.refl : Ch st st a h := fun _ _ q _ _ => q
theorem Ch.trans {st1 : Sto} (x : Ch st st1 a h) (y : Ch st1 st' a h) : Ch st st' a h := fun e o q n1 n2 => y e o (x e o q n1 n2) n1 n2
theorem Ch.draw (o : Ob) : Ch st (put st a o) a h := fun e o q n1 n2 => by rw [put_ne n1]; exact q
theorem Ch.new {p : Addr} {o : Ob} (hp : st p = none) : Ch st (put st p o) a h := fun e u q _ _ => by rw [put_ne (ne_some q hp)]; exact q
theorem Ch.hand (o : Ob) : Ch st (put st h o) a h := fun e o q n1 n2 => by rw [put_ne n2]; exact q
end
def spTerm (n : Nat) : DSp := fun ds st Q _ => ∃ (a kd h ar : Addr) (room deep c : Int) (hs around : List Int), ds = [.ref a, .ref kd, .ref ar, .int room, .int deep] ∧ GS st a kd h c hs ∧ 1 ≤ c ∧ c ≤ 6 ∧ ar ≠ a ∧ ar ≠ h ∧ lstAt st ar = some (around.map DV.int) ∧
  around.length + hs.length ≤ 20 ∧ (∀ x ∈ around, 0 ≤ x ∧ x < 10) ∧ (∀ x ∈ hs, 0 ≤ x ∧ x < 10) ∧ 1 ≤ room ∧ room ≤ 60 ∧ 0 ≤ deep ∧ deep < n ∧
  ∀ (t : Tm) (hs' : List Int) (st' : Sto), Made c t → waits t around = true → hs = hs' ++ (lent t).reverse → (size t : Int) ≤ room → (high t : Int) ≤ deep + 1 → GS st' a kd h c hs' → Ch st st' a h → Q (enc t) st'
theorem word9 {d : Int} (h0 : 0 ≤ d) (h1 : d < 9) : ∃ word : Wd, (word = .row ∨ word = .both ∨ word = .look ∨ word = .lend) ∧
    L2.atI [DV.str (Str.ofString "row"), .str (Str.ofString "row"), .str (Str.ofString "both"), .str (Str.ofString "both"), .str (Str.ofString "both"), .str (Str.ofString "look"), .str (Str.ofString "lend"), .str (Str.ofString "lend"), .str (Str.ofString "row")] d = some (.str word.str) := by
  have : d = 0 ∨ d = 1 ∨ d = 2 ∨ d = 3 ∨ d = 4 ∨ d = 5 ∨ d = 6 ∨ d = 7 ∨ d = 8 := by omega
  rcases this with rfl | rfl | rfl | rfl | rfl | rfl | rfl | rfl | rfl
  · exact ⟨.row, by simp, atI_nat (j := 0) rfl⟩
  · exact ⟨.row, by simp, atI_nat (j := 1) rfl⟩
  · exact ⟨.both, by simp, atI_nat (j := 2) rfl⟩
  · exact ⟨.both, by simp, atI_nat (j := 3) rfl⟩
  · exact ⟨.both, by simp, atI_nat (j := 4) rfl⟩
  · exact ⟨.look, by simp, atI_nat (j := 5) rfl⟩
  · exact ⟨.lend, by simp, atI_nat (j := 6) rfl⟩
  · exact ⟨.lend, by simp, atI_nat (j := 7) rfl⟩
  · exact ⟨.row, by simp, atI_nat (j := 8) rfl⟩
abbrev s__law_term : Stmt := (topS 17)
abbrev N__law_term : List Str := ["tape", "known", "around", "room", "deep", "word", "shares", "x", "one", "h", "many", "found", "here", "share", "part"]
theorem sc__law_term : FnScope N__law_term ["tape", "known", "around", "room", "deep"] (defScope s__law_term) := ⟨rfl, rfl, rfl, by decide +kernel, rfl, by decide +kernel, by decide +kernel⟩
theorem cal_term1 {n : Nat} (D : Def K mg "_law_term" s__law_term ["tape", "known", "around", "room", "deep"]) (b_list : mg "list" = none) (b_tuple : mg "tuple" = none) (b_min : mg "min" = none) (C__law_digit : Cal P w K mg base 1 "_law_digit" ["tape", "many"] spDigit) (C__law_shares : Cal P w K mg base 2 "_law_shares" ["tape", "room", "many"] spShares)
    (C__law_leaf : Cal P w K mg base 3 "_law_leaf" ["tape", "known", "around"] spLeaf) (C__law_term : Cal P w K mg base (n + 3) "_law_term" ["tape", "known", "around", "room", "deep"] (spTerm n)) : Cal P w K mg base (n + 4) "_law_term" ["tape", "known", "around", "room", "deep"] (spTerm (n + 1)) := by
  refine cal_ok D sc__law_term (fun f cdv A outer s0 H E hr => (dss_cons (ds_if (dw_dt (dw_or (dt_cmp (op_ltU hr.units0) dop_lt (de_var 3) de_int (nomark _)) (dw_or1 (dt_cmp (op_eqU hr.units) dop_eq (de_var 4) de_int (nomark _))))) (dss_one (ds_ret (de_c C__law_leaf hr (passes_call (takes_of rfl rfl rfl rfl) (fun _ _ _ _ h => h)) (da_cons (de_var 0) (da_cons (de_var 1) (da_cons (de_var 2) da_nil)))))) dss_nil)
      (dss_cons (ds_set 5 sc__law_term.nd (de_ix (de_lst (da_cons de_str (da_cons de_str (da_cons de_str (da_cons de_str (da_cons de_str (da_cons de_str (da_cons de_str (da_cons de_str (da_cons de_str da_nil)))))))))) (de_c C__law_digit hr (passes_call (takes_of rfl rfl rfl rfl) (fun _ _ _ _ h => h)) (da_cons (de_var 0) (da_cons de_int da_nil))) (fun _ _ => rfl)))
      (dss_cons (ds_if (dt_cmp (op_eqU hr.units) dop_eq (de_var 5) de_str (nomark _)) (dss_cons (ds_set 6 sc__law_term.nd (de_c C__law_shares hr (passes_call (takes_of rfl rfl rfl rfl) (fun _ _ _ _ h => h)) (da_cons (de_var 0) (da_cons (de_op op_sub dop_sub (de_var 3) de_int) (da_cons de_int da_nil)))))
      (dss_cons (ds_set 7 sc__law_term.nd (de_c C__law_digit hr (passes_call (takes_of rfl rfl rfl rfl) (fun _ _ _ _ h => h)) (da_cons (de_var 0) (da_cons (de_dget (hu_of hr) (de_var 1) de_str) da_nil))))
      (dss_cons (ds_set 8 sc__law_term.nd (de_c C__law_term hr (passes_call (takes_of rfl rfl rfl rfl) (fun _ _ _ _ h => h)) (da_cons (de_var 0) (da_cons (de_var 1) (da_cons (de_lst da_nil) (da_cons (de_ix (de_var 6) de_int (fun _ _ => rfl)) (da_cons (de_op op_sub dop_sub (de_var 4) de_int) da_nil)))))))
      (dss_one (ds_ret (de_tup (da_cons de_str (da_cons (de_var 7) (da_cons (de_var 8) (da_cons (de_c C__law_term hr (passes_call (takes_of rfl rfl rfl rfl) (fun _ _ _ _ h => h)) (da_cons (de_var 0) (da_cons (de_var 1) (da_cons (de_lst da_nil) (da_cons (de_ix (de_var 6) de_int (fun _ _ => rfl)) (da_cons (de_op op_sub dop_sub (de_var 4) de_int) da_nil)))))) da_nil)))))))))) dss_nil)
      (dss_cons (ds_if (dw_dt (dw_and (dt_cmp (op_eqU hr.units) dop_eq (de_var 5) de_str (nomark _)) (dw_and1 (dt_cmp (op_neU hr.units) dop_ne (de_dget (hu_of hr) (de_var 1) de_str) (de_lst da_nil) (nomark _))))) (dss_cons (ds_set 9 sc__law_term.nd (de_lm0 PySem.F.slot_list_pop PySem.F.type_list_pop mt_pop dm_pop (de_dget (hu_of hr) (de_var 1) de_str)))
      (dss_one (ds_ret (de_tup (da_cons de_str (da_cons (de_var 9) (da_cons (de_c C__law_term hr (passes_call (takes_of rfl rfl rfl rfl) (fun _ _ _ _ h => h)) (da_cons (de_var 0) (da_cons (de_var 1) (da_cons (de_var 2) (da_cons (de_op op_sub dop_sub (de_var 3) de_int) (da_cons (de_op op_sub dop_sub (de_var 4) de_int) da_nil)))))) da_nil))))))) dss_nil)
      (dss_cons (ds_if (dt_cmp (op_eqU hr.units) dop_eq (de_var 5) de_str (nomark _)) (dss_cons (ds_set 10 sc__law_term.nd (de_op op_addU dop_add de_int (de_c C__law_digit hr (passes_call (takes_of rfl rfl rfl rfl) (fun _ _ _ _ h => h)) (da_cons (de_var 0) (da_cons (de_b (call_min2 rfl) dc_min2 b_min (by decide +kernel) (da_cons de_int (da_cons (de_op op_sub dop_sub (de_var 3) de_int) da_nil))) da_nil)))))
      (dss_cons (ds_set 6 sc__law_term.nd (de_c C__law_shares hr (passes_call (takes_of rfl rfl rfl rfl) (fun _ _ _ _ h => h)) (da_cons (de_var 0) (da_cons (de_op op_sub dop_sub (de_var 3) de_int) (da_cons (de_var 10) da_nil)))))
      (dss_one (ds_ret (de_op op_addU dop_add (de_tup (da_cons de_str da_nil)) (de_ty call_tuple_of dc_tuple b_tuple (by decide +kernel) (da_cons (de_lc (own := [("share", 13)]) rfl sc__law_term.nd (di_seq (de_var 6)) (blkOk_by (N := N__law_term) (own := [("share", 13)]) (sc := defScope s__law_term) (by decide +kernel)) (fun _ _ _ _ _ => (dgw_name 13 sc__law_term.nd)) (fun _ _ _ _ _ => dts_nil) (fun _ _ _ _ _ => (de_c C__law_term hr passL (da_cons (de_var 0) (da_cons (de_var 1) (da_cons (de_var 2) (da_cons (de_var 13) (da_cons (de_op op_sub dop_sub (de_var 4) de_int) da_nil)))))))) da_nil))))))) dss_nil)
      (dss_cons (ds_set 10 sc__law_term.nd (de_op op_addU dop_add de_int (de_c C__law_digit hr (passes_call (takes_of rfl rfl rfl rfl) (fun _ _ _ _ h => h)) (da_cons (de_var 0) (da_cons (de_b (call_min2 rfl) dc_min2 b_min (by decide +kernel) (da_cons de_int (da_cons (de_op op_sub dop_sub (de_var 3) de_int) da_nil))) da_nil)))))
      (dss_cons (ds_set 11 sc__law_term.nd (de_lst da_nil))
      (dss_cons (ds_set 12 sc__law_term.nd (de_ty call_list_of dc_list b_list (by decide +kernel) (da_cons (de_var 2) da_nil)))
      (dss_cons (ds_for (passes_of rfl) rfl (di_seq (de_c C__law_shares hr (passes_call (takes_of rfl rfl rfl rfl) (fun _ _ _ _ h => h)) (da_cons (de_var 0) (da_cons (de_op op_sub dop_sub (de_var 3) de_int) (da_cons (de_var 10) da_nil))))) (dg_name 13 sc__law_term.nd) (dss_cons (ds_set 14 sc__law_term.nd (de_c C__law_term hr (passes_call (takes_of rfl rfl rfl rfl) (fun _ _ _ _ h => h)) (da_cons (de_var 0) (da_cons (de_var 1) (da_cons (de_var 12) (da_cons (de_var 13) (da_cons (de_op op_sub dop_sub (de_var 4) de_int) da_nil)))))))
      (dss_cons (ds_expr (de_lm PySem.F.slot_list_append PySem.F.type_list_append mt_append dm_append (de_var 11) (da_cons (de_var 14) da_nil)))
      (dss_one (ds_if (dt_cmp (op_eqU hr.units) dop_eq (de_ix (de_var 14) de_int (fun _ _ => rfl)) de_str (nomark _)) (dss_one (ds_set 12 sc__law_term.nd (de_op op_addU dop_add (de_var 12) (de_lst (da_cons (de_ix (de_var 14) de_int (fun _ _ => rfl)) da_nil))))) dss_nil)))))
      (dss_one (ds_ret (de_op op_addU dop_add (de_tup (da_cons de_str da_nil)) (de_ty call_tuple_of dc_tuple b_tuple (by decide +kernel) (da_cons (de_var 11) da_nil))))))))))))))) ?_
  rintro _ st Q W ⟨a, kd, h, ar, room, deep, c, hs, around, rfl, gs, c1, c6, nra, nrh, hl, hlen, hr, hhs, r1, r60, d0, d1, q⟩
  refine ⟨rfl, ?_⟩
  have leaf : spLeaf [.ref a, .ref kd, .ref ar] st (Rt Q) W := by
    obtain ⟨n0, e0⟩ := gs.tape
    refine ⟨a, kd, h, ar, n0, c, hs, around, rfl, e0, ⟨gs.known, gs.hands⟩, c1, c6, nra, hl, by omega, hr, fun t m ht hw hle hps _ => Rt.of (q t hs _ ht hw (by simp [hle]) ?_ ?_ (gs.draw m) (Ch.draw _))⟩
    · obtain ⟨w, ns, ps⟩ := t; simp only [Tm.ps] at hps; subst hps; simp [size, sizeL]; omega
    · obtain ⟨w, ns, ps⟩ := t; simp only [Tm.ps] at hps; subst hps; simp [high, highL]; omega
  have keepL : ∀ {st1 : Sto}, Ch st st1 a h → lstAt st1 ar = some (around.map DV.int) := fun c => lstAt_keep hl fun o e => c ar o e nra nrh
  simp only [startD, List.map_cons, List.map_nil, List.length_cons, List.length_nil, Nat.reduceAdd, Nat.reduceSub, Nat.zero_add, List.replicate_succ, List.replicate_zero, List.cons_append, List.nil_append]
  -- leaf
  refine seq_by (fun ρ1 st1 => ρ1 = [some (.ref a), some (.ref kd), some (.ref ar), some (.int room), some (.int deep), none, none, none, none, none, none, none, none, none, none] ∧ st = st1 ∧ 3 ≤ room ∧ 1 ≤ deep) (fun N hN => ?_) ?_
  · rwa [True.intro]
    split
    · exact leaf
    · split
      · exact leaf
      · exact hN _ _ ⟨rfl, rfl, by omega, by omega⟩
  rintro _ _ ⟨rfl, rfl, r3, dp⟩
  -- word
  refine seq_by (fun ρ1 st1 => ∃ word : Wd, (word = .row ∨ word = .both ∨ word = .look ∨ word = .lend) ∧ ρ1 = [some (.ref a), some (.ref kd), some (.ref ar), some (.int room), some (.int deep), some (.str word.str), none, none, none, none, none, none, none, none, none] ∧ GS st1 a kd h c hs ∧ Ch st st1 a h) (fun N hN => ?_) ?_
  · rwa [True.intro]
    refine ⟨small (by decide), fun p hp => ?_⟩
    obtain ⟨n0, e0⟩ := (gs.new (o := .lst [DV.str (Str.ofString "row"), .str (Str.ofString "row"), .str (Str.ofString "both"), .str (Str.ofString "both"), .str (Str.ofString "both"), .str (Str.ofString "look"), .str (Str.ofString "lend"), .str (Str.ofString "lend"), .str (Str.ofString "row")]) hp).tape
    have nap : a ≠ p := ne_some gs.tape.choose_spec hp
    refine ⟨a, n0, 9, rfl, e0, by decide, by decide, fun d m dd0 dd1 => ?_⟩
    obtain ⟨word, hw, hat⟩ := word9 dd0 dd1
    rwa [lstAt_put (Ne.symm nap), hat]
    exact hN _ _ ⟨word, hw, rfl, (gs.new hp).draw m, (Ch.new hp).trans (Ch.draw _)⟩
  rintro _ st1 ⟨word, hw, rfl, gs1, ch1⟩
  -- look
  refine seq_by (fun ρ1 st2 => word ≠ .look ∧ ρ1 = [some (.ref a), some (.ref kd), some (.ref ar), some (.int room), some (.int deep), some (.str word.str), none, none, none, none, none, none, none, none, none] ∧ st1 = st2) (fun N hN => ?_) ?_
  · erw [True.intro]
    split
    · obtain ⟨n1, e1⟩ := gs1.tape
      refine ⟨a, n1, room - 1, 2, rfl, e1, by decide, by omega, by omega, fun xs m b hxl hxg hxs hb => ?_⟩
      have hxl' : xs.length = 2 := by omega
      obtain ⟨x1, x2, rfl⟩ : ∃ x1 x2, xs = [x1, x2] := by
        match xs, hxl' with
        | [u, v], _ => exact ⟨u, v, rfl⟩
      have hx1 := hxg x1 (by simp)
      have hx2 := hxg x2 (by simp)
      simp only [List.sum_cons, List.sum_nil] at hxs
      have hb' : put st1 a (.lst [.int m]) b = none := by rw [put_ne (Ne.symm (ne_some e1 hb))]; exact hb
      have gs2 := (gs1.draw m).new (o := .lst [.int x1, .int x2]) hb'
      have ch2 : Ch st _ a h := ch1.trans ((Ch.draw (.lst [.int m])).trans (Ch.new (o := .lst [.int x1, .int x2]) hb'))
      erw [gs2.known, look_cells]
      obtain ⟨n2, e2⟩ := gs2.tape
      refine ⟨a, n2, c, rfl, e2, by omega, by omega, fun x m2 xx0 xx1 => ?_⟩
      have gs3 := gs2.draw m2
      have ch3 : Ch st _ a h := ch2.trans (Ch.draw (.lst [.int m2]))
      have nab : b ≠ a := Ne.symm (ne_some e1 hb)
      refine ⟨small (by decide), fun p hp => ?_⟩
      have npb : b ≠ p := ne_some (by rw [put_ne nab, put_same]) hp
      have gs4 := gs3.new (o := .lst []) hp
      have npa : p ≠ a := Ne.symm (ne_some gs3.tape.choose_spec hp)
      have nph : p ≠ h := Ne.symm (ne_some gs3.hands hp)
      have hbl : ∀ o o', lstAt (put (put (put (put st1 a o) b (.lst [.int x1, .int x2])) a o') p (.lst [])) b = some [.int x1, .int x2] := fun o o' => by rw [lstAt_put npb, lstAt_put nab, lstAt_same]
      erw [hbl]
      refine ⟨a, kd, h, p, x1, deep - 1, c, hs, [], rfl, gs4, c1, c6, npa, nph, lstAt_same, by simp; omega, by simp, hhs, hx1, by omega, by omega, by omega, fun t1 hs1 st5 mt1 wt1 lt1 sz1 hg1 gs5 ch5 => ?_⟩
      have ch5' : Ch st st5 a h := ch3.trans ((Ch.new hp).trans ch5)
      refine ⟨small (by decide), fun p2 hp2 => ?_⟩
      have hbh : b ≠ h := by rintro rfl; rw [gs1.hands] at hb; cases hb
      have e5b : st5 b = some (.lst [.int x1, .int x2]) := ch5 b _ (by rw [put_ne npb, put_ne nab, put_same]) nab hbh
      have npb2 : b ≠ p2 := ne_some e5b hp2
      have gs6 := gs5.new (o := .lst []) hp2
      erw [lstAt_put npb2, lstAt_lst e5b]
      have hlen1 : hs1.length ≤ hs.length := by rw [lt1]; simp
      refine ⟨a, kd, h, p2, x2, deep - 1, c, hs1, [], rfl, gs6, c1, c6, Ne.symm (ne_some gs5.tape.choose_spec hp2), Ne.symm (ne_some gs5.hands hp2), lstAt_same, by simp; omega, by simp, fun x hx => hhs x (by rw [lt1]; simp [hx]), hx2, by omega, by omega, by omega, fun t2 hs2 st7 mt2 wt2 lt2 sz2 hg2 gs7 ch7 => ?_⟩
      refine ⟨small (by decide), Rt.of (q (.mk .look [x] [t1, t2]) hs2 st7 ?_ ?_ ?_ ?_ ?_ gs7 (ch5'.trans ((Ch.new hp2).trans ch7)))⟩
      · simp [Made, MadeL, numsOk, partsN, xx0, xx1, mt1, mt2]
      · simp [waits, waitsL, wt1, wt2]
      · rw [lt1, lt2]; simp [lent, lentL]
      · simp [size, sizeL]; omega
      · simp [high, highL]; omega
    · rename_i hne
      exact hN _ _ ⟨hne, rfl, rfl⟩
  rintro _ _ ⟨hnl, rfl, rfl⟩
  -- lend
  refine seq_by (fun ρ1 st2 => ρ1 = [some (.ref a), some (.ref kd), some (.ref ar), some (.int room), some (.int deep), some (.str word.str), none, none, none, none, none, none, none, none, none] ∧ GS st2 a kd h c hs ∧ Ch st st2 a h) (fun N hN => ?_) ?_
  · erw [True.intro]
    split
    · erw [gs1.known, look_hands]
      refine ⟨small (by decide), fun p hp => ?_⟩
      have gs2 := gs1.new (o := .lst []) hp
      have ch2 : Ch st _ a h := ch1.trans (Ch.new (o := .lst []) hp)
      refine ⟨decide (hs = []), eqIs_lists (lstAt_lst gs2.hands) lstAt_same (plains_ints _) (by rw [plains]) (by rw [deeps_ints]; decide) (by rw [deeps]; decide) (by simp), ?_⟩
      split
      · rename_i he
        have hne : hs ≠ [] := by simpa using he
        obtain ⟨hs0, x, rfl⟩ : ∃ hs0 x, hs = hs0 ++ [x] := ⟨hs.dropLast, hs.getLast hne, (List.dropLast_concat_getLast hne).symm⟩
        have ghx := gs2.hands
        rw [List.map_append, List.map_cons, List.map_nil] at ghx
        erw [gs2.known, look_hands, ghx]
        have gs3 := gs2.hand hs0
        have ch3 : Ch st _ a h := ch2.trans (Ch.hand (.lst (hs0.map DV.int)))
        simp only [List.length_append, List.length_cons, List.length_nil] at hlen
        have hx := hhs x (by simp)
        refine ⟨a, kd, h, ar, room - 1, deep - 1, c, hs0, around, rfl, gs3, c1, c6, nra, nrh, keepL ch3, by omega, hr, fun x hx => hhs x (by simp [hx]), by omega, by omega, by omega, by omega, fun t hs' st4 mt wt lt sz hg gs4 ch4 => ?_⟩
        refine ⟨small (by decide), Rt.of (q (.mk .lend [x] [t]) hs' st4 ?_ ?_ ?_ ?_ ?_ gs4 (ch3.trans ch4))⟩
        · simp [Made, MadeL, numsOk, partsN, hx.1, hx.2, mt]
        · simp [waits, waitsL, wt]
        · rw [lt]; simp [lent, lentL]
        · simp [size, sizeL]; omega
        · simp [high, highL]; omega
      · exact hN _ _ ⟨rfl, gs2, ch2⟩
    · exact hN _ _ ⟨rfl, gs1, ch1⟩
  rintro _ st2 ⟨rfl, gs2, ch2⟩
  have locked : ∀ {st3 st4 : Sto} {b : Addr} {xs : List Int}, GS st3 a kd h c hs → st3 b = some (.lst (xs.map DV.int)) → b ≠ a → b ≠ h → b ≠ kd → GS (put st3 b (.rol (xs.map DV.int))) a kd h c hs := fun g e n1 n2 n3 => g.other n1 n2 n3
  -- both
  refine seq_by (fun ρ1 st3 => ρ1 = [some (.ref a), some (.ref kd), some (.ref ar), some (.int room), some (.int deep), some (.str word.str), none, none, none, none, none, none, none, none, none] ∧ st2 = st3) (fun N hN => ?_) ?_
  · erw [True.intro]
    split
    · obtain ⟨n2, e2⟩ := gs2.tape
      refine ⟨a, n2, _, rfl, e2, by split <;> omega, by split <;> omega, fun d m dd0 dd1 => ?_⟩
      have dd2 : d < 3 ∧ d < room - 2 := by split at dd1 <;> omega
      erw [True.intro]
      refine ⟨a, m, room - 1, 2 + d, rfl, put_same, by omega, by omega, by omega, fun xs m2 b hxl hxg hxs hb => ?_⟩
      rw [put_put]
      have hb2 : st2 b = none := (ne_put hb).2
      have nba : b ≠ a := (ne_put hb).1
      have nbh : b ≠ h := by rintro rfl; rw [gs2.hands] at hb2; cases hb2
      have nbk : b ≠ kd := by rintro rfl; rw [gs2.known] at hb2; cases hb2
      have gs3 : GS (put (put st2 a (.lst [.int m2])) b (.rol (xs.map DV.int))) a kd h c hs := (gs2.draw m2).other nba nbh nbk
      have hb3 : put st2 a (.lst [.int m2]) b = none := by rw [put_ne nba]; exact hb2
      have ch3 : Ch st (put (put st2 a (.lst [.int m2])) b (.rol (xs.map DV.int))) a h := ch2.trans ((Ch.draw (.lst [.int m2])).trans (Ch.new hb3))
      simp only [mLc]
      have el : lockS (put (put st2 a (.lst [.int m2])) b (.lst (xs.map DV.int))) [b] = put (put st2 a (.lst [.int m2])) b (.rol (xs.map DV.int)) := by rw [lockS_one put_same, put_put]
      have eu : ∀ st', unlockS (put (put st2 a (.lst [.int m2])) b (.lst (xs.map DV.int))) st' [b] = put st' b (.lst (xs.map DV.int)) := fun st' => unlockS_one put_same
      erw [el, eu, List.length_map, wipeD]
      refine ⟨small (by decide), small (by omega), ?_⟩
      refine lcL_by (fun rest acc st4 => ∃ (done : List Tm) (ys hs' : List Int), rest = ys.map DV.int ∧ acc = encs done ∧ (done.length : Int) + ys.length = 2 + d ∧ MadeL c done ∧ waitsL false done around = true ∧ hs = hs' ++ (lentL done).reverse ∧ (sizeL done : Int) + ys.sum ≤ room - 1 ∧ (∀ y ∈ ys, 1 ≤ y) ∧ (∀ y ∈ ys, y ≤ 60) ∧ (highL done : Int) ≤ deep ∧ GS st4 a kd h c hs' ∧ Ch st st4 a h)
        ?_ ?_ _ _ _ ⟨[], xs, hs, rfl, rfl, by simp; omega, trivial, rfl, by simp [lentL], by simp [sizeL]; omega, hxg, ?_, by simp [highL]; omega, gs3, ch3⟩
      · rintro dv r acc st4 ⟨done, ys, hs', er, rfl, hlen', md, wd, ld, sd, yg, y60, hd, gs4, ch4⟩ ih
        cases ys with
        | nil => cases er
        | cons y ys =>
          rw [List.map_cons] at er
          cases er
          have hy1 := yg y (by simp)
          have hysum : 0 ≤ ys.sum := by
            have : ∀ l : List Int, (∀ y ∈ l, 1 ≤ y) → 0 ≤ l.sum := by
              intro l
              induction l with
              | nil => intro _; simp
              | cons z l ih => intro hz; simp only [List.sum_cons]; have := hz z (by simp); have := ih fun y hy => hz y (by simp [hy]); omega
            exact this ys fun y hy => yg y (by simp [hy])
          simp only [List.sum_cons] at sd
          have hlen2 : hs'.length ≤ hs.length := by rw [ld]; simp
          erw [True.intro]
          refine ⟨a, kd, h, ar, y, deep - 1, c, hs', around, rfl, gs4, c1, c6, nra, nrh, keepL ch4, by omega, hr, fun x hx => hhs x (by rw [ld]; simp [hx]), hy1, y60 y (by simp), by omega, by omega, fun t hs2 st5 mt wt lt sz hg gs5 ch5 => ?_⟩
          refine ih _ _ ⟨done ++ [t], ys, hs2, rfl, by simp [encs_map], by simp at hlen' ⊢; omega, madeL_append md ⟨mt, trivial⟩, by rw [waitsL_append_any, wd]; simp [waitsL, wt], by rw [ld, lt, lentL_append]; simp [lentL], by rw [sizeL_append]; simp [sizeL]; omega, fun y hy => yg y (by simp [hy]), fun y hy => y60 y (by simp [hy]), by rw [highL_append]; simp [highL]; omega, gs5, ch4.trans ch5⟩
      · rintro acc st4 ⟨done, ys, hs', er, rfl, hlen', md, wd, ld, sd, yg, y60, hd, gs4, ch4⟩ p hp
        cases ys with
        | cons y ys => cases er
        | nil =>
          simp only [List.length_nil] at hlen'
          erw [True.intro]
          refine ⟨small (by rw [encs_length]; omega), Rt.of (q (.mk .both [] done) hs' _ ?_ ?_ ?_ ?_ ?_ ((gs4.other nba nbh nbk).new hp) ?_)⟩
          · simp [Made, numsOk, partsN, md]; omega
          · simp [waits, wd]
          · rw [ld]; simp [lent]
          · simp [size]; simp at sd; omega
          · simp [high]; omega
          · intro e o he n1 n2
            have neb : e ≠ b := by
              rintro rfl
              have z := ch2 e o he n1 n2
              rw [hb2] at z; cases z
            have e4 := ch4 e o he n1 n2
            have e5 : put st4 b (.lst (xs.map DV.int)) e = some o := by rw [put_ne neb]; exact e4
            rw [put_ne (ne_some e5 hp)]; exact e5
      · intro y hy
        have : ∀ (l : List Int), (∀ y ∈ l, 1 ≤ y) → ∀ y ∈ l, y ≤ l.sum := by
          intro l
          induction l with
          | nil => intro _ y hy; cases hy
          | cons z l ih =>
            intro hz y hy
            simp only [List.sum_cons]
            have h0 : 0 ≤ l.sum := by
              have : ∀ l : List Int, (∀ y ∈ l, 1 ≤ y) → 0 ≤ l.sum := by
                intro l
                induction l with
                | nil => intro _; simp
                | cons z l ih => intro hz; simp only [List.sum_cons]; have := hz z (by simp); have := ih fun y hy => hz y (by simp [hy]); omega
              exact this l fun y hy => hz y (by simp [hy])
            rcases List.mem_cons.mp hy with rfl | hy
            · omega
            · have := ih (fun y hy => hz y (by simp [hy])) y hy
              have := hz z (by simp)
              omega
        have := this xs hxg y hy
        omega
    · exact hN _ _ ⟨rfl, rfl⟩
  rintro _ _ ⟨rfl, rfl⟩
  -- row
  obtain ⟨n2, e2⟩ := gs2.tape
  erw [True.intro]
  refine ⟨a, n2, _, rfl, e2, by split <;> omega, by split <;> omega, fun d m dd0 dd1 => ?_⟩
  have dd2 : d < 6 ∧ d < room - 1 := by split at dd1 <;> omega
  erw [True.intro]
  refine ⟨small (by decide), fun f hf => ?_⟩
  have nfa : f ≠ a := (ne_put hf).1
  have hf2 := (ne_put hf).2
  have nfh : f ≠ h := by rintro rfl; rw [gs2.hands] at hf2; cases hf2
  have nfk : f ≠ kd := by rintro rfl; rw [gs2.known] at hf2; cases hf2
  have gs3 : GS (put (put st2 a (.lst [.int m])) f (.lst [])) a kd h c hs := (gs2.draw m).new hf
  have ch3 : Ch st (put (put st2 a (.lst [.int m])) f (.lst [])) a h := ch2.trans ((Ch.draw (.lst [.int m])).trans (Ch.new hf))
  erw [keepL ch3]
  intro hp_ hhp
  have nha : hp_ ≠ a := Ne.symm (ne_some gs3.tape.choose_spec hhp)
  have nhh : hp_ ≠ h := Ne.symm (ne_some gs3.hands hhp)
  have nhf : hp_ ≠ f := (ne_put hhp).1
  have gs4 := gs3.new (o := .lst (around.map DV.int)) hhp
  have ch4 : Ch st _ a h := ch3.trans (Ch.new (o := .lst (around.map DV.int)) hhp)
  obtain ⟨n4, e4⟩ := gs4.tape
  refine ⟨a, n4, room - 1, 1 + d, rfl, e4, by omega, by omega, by omega, fun xs m2 b hxl hxg hxs hb => ?_⟩
  have nba : b ≠ a := Ne.symm (ne_some e4 hb)
  have nbh : b ≠ h := Ne.symm (ne_some gs4.hands hb)
  have nbk : b ≠ kd := Ne.symm (ne_some gs4.known hb)
  have nbf : b ≠ f := Ne.symm (ne_some (by rw [put_ne (Ne.symm nhf), put_same]) hb)
  have nbp : b ≠ hp_ := Ne.symm (ne_some put_same hb)
  generalize hS : put (put (put (put st2 a (.lst [.int m])) f (.lst [])) hp_ (.lst (around.map DV.int))) a (.lst [.int m2]) = st5
  have gs5 : GS st5 a kd h c hs := hS ▸ gs4.draw m2
  have ch5 : Ch st st5 a h := hS ▸ ch4.trans (Ch.draw (.lst [.int m2]))
  have f5 : st5 f = some (.lst []) := by rw [← hS, put_ne nfa, put_ne (Ne.symm nhf), put_same]
  have p5 : st5 hp_ = some (.lst (around.map DV.int)) := by rw [← hS, put_ne nha, put_same]
  have b5 : st5 b = none := by rw [← hS, put_ne nba]; exact hb
  have el : lockS (put st5 b (.lst (xs.map DV.int))) [b] = put st5 b (.rol (xs.map DV.int)) := by rw [lockS_one put_same, put_put]
  have eu : ∀ st', unlockS (put st5 b (.lst (xs.map DV.int))) st' [b] = put st' b (.lst (xs.map DV.int)) := fun st' => unlockS_one put_same
  have sumge : ∀ l : List Int, (∀ y ∈ l, 1 ≤ y) → 0 ≤ l.sum := by
    intro l
    induction l with
    | nil => intro _; simp
    | cons z l ih => intro hz; simp only [List.sum_cons]; have := hz z (by simp); have := ih fun y hy => hz y (by simp [hy]); omega
  erw [el, eu]
  refine forL_by (fun rest ρ st6 => ∃ (done : List Tm) (ys hs' : List Int) (pp : Addr) (x13 x14 : Option DV), rest = ys.map DV.int ∧ ρ = [some (.ref a), some (.ref kd), some (.ref ar), some (.int room), some (.int deep), some (.str word.str), none, none, none, none, some (.int (1 + d)), some (.ref f), some (.ref pp), x13, x14] ∧
      (done.length : Int) + ys.length = 1 + d ∧ MadeL c done ∧ waitsL true done around = true ∧ hs = hs' ++ (lentL done).reverse ∧ (sizeL done : Int) + ys.sum ≤ room - 1 ∧ (∀ y ∈ ys, 1 ≤ y) ∧ (highL done : Int) ≤ deep ∧ GS st6 a kd h c hs' ∧ Ch st st6 a h ∧
      st6 f = some (.lst (encs done)) ∧ st6 pp = some (.lst ((aroundL done around).map DV.int)) ∧ pp ≠ a ∧ pp ≠ h ∧ pp ≠ f ∧ (aroundL done around).length + hs'.length ≤ 20 ∧ (∀ x ∈ aroundL done around, 0 ≤ x ∧ x < 10) ∧ (∀ e o, st e = some o → e ≠ b) ∧ st6 b = some (.rol (xs.map DV.int)))
    ?_ ?_ _ _ _ ⟨[], xs, hs, hp_, none, none, rfl, rfl, by simp; omega, trivial, rfl, by simp [lentL], by simp [sizeL]; omega, hxg, by simp [highL]; omega, gs5.other nba nbh nbk, fun e o he n1 n2 => ?_, by rw [put_ne (Ne.symm nbf)]; exact f5, by rw [put_ne (Ne.symm nbp)]; exact p5, nha, nhh, nhf, hlen, hr, fun e o he => ?_, put_same⟩
  · rintro dv r ρ st6 ⟨done, ys, hs', pp, x13, x14, er, rfl, hlen', md, wd, ld, sd, yg, hd, gs6, ch6, ef, ep, npa, nph, npf, hal, har, heb, eb⟩ ih
    cases ys with
    | nil => cases er
    | cons y ys =>
      rw [List.map_cons] at er
      cases er
      have hy1 := yg y (by simp)
      have hys := sumge ys fun y hy => yg y (by simp [hy])
      simp only [List.sum_cons] at sd
      erw [True.intro]
      refine ⟨a, kd, h, pp, y, deep - 1, c, hs', aroundL done around, rfl, gs6, c1, c6, npa, nph, lstAt_lst ep, hal, har, fun x hx => hhs x (by rw [ld]; simp [hx]), hy1, by omega, by omega, by omega, fun t hs2 st7 mt wt lt sz hg gs7 ch7 => ?_⟩
      have ef7 : st7 f = some (.lst (encs done)) := ch7 f _ ef nfa nfh
      have ep7 : st7 pp = some (.lst ((aroundL done around).map DV.int)) := ch7 pp _ ep npa nph
      have eb7 : st7 b = some (.rol (xs.map DV.int)) := ch7 b _ eb nba nbh
      obtain ⟨w, ns, ps⟩ := t
      have gs8 : GS (put st7 f (.lst (encs done ++ [enc (.mk w ns ps)]))) a kd h c hs2 := gs7.other nfa nfh nfk
      simp only [List.length_cons] at hlen'
      erw [ef7, enc]
      refine ⟨smallL (by rw [encs_length]; omega), ?_⟩
      have hlen7 : hs'.length = hs2.length + (lent (.mk w ns ps)).length := by rw [lt]; simp
      have common : ∀ (pp2 : Addr) (st9 : Sto) (x14 : Option DV), GS st9 a kd h c hs2 → Ch st st9 a h → st9 f = some (.lst (encs (done ++ [.mk w ns ps]))) → st9 pp2 = some (.lst ((aroundL (done ++ [.mk w ns ps]) around).map DV.int)) → pp2 ≠ a → pp2 ≠ h → pp2 ≠ f →
          (aroundL (done ++ [.mk w ns ps]) around).length + hs2.length ≤ 20 → (∀ x ∈ aroundL (done ++ [.mk w ns ps]) around, 0 ≤ x ∧ x < 10) → st9 b = some (.rol (xs.map DV.int)) → forL W (gNm 13) _ _ (ys.map DV.int) [some (.ref a), some (.ref kd), some (.ref ar), some (.int room), some (.int deep), some (.str word.str), none, none, none, none, some (.int (1 + d)), some (.ref f), some (.ref pp2), some (.int y), x14] st9 :=
        fun pp2 st9 x14 g1 g2 g3 g4 g5 g6 g7 g8 g9 g10 => ih _ _ ⟨done ++ [.mk w ns ps], ys, hs2, pp2, _, _, rfl, rfl, by simp; omega, madeL_append md ⟨mt, trivial⟩, by rw [waitsL_append_row, wd]; simp [waitsL, wt], by rw [ld, lt, lentL_append]; simp [lentL], by rw [sizeL_append]; simp [sizeL]; omega, fun y hy => yg y (by simp [hy]), by rw [highL_append]; simp [highL]; omega, g1, g2, g3, g4, g5, g6, g7, g8, g9, heb, g10⟩
      have ch8 : Ch st (put st7 f (.lst (encs done ++ [enc (.mk w ns ps)]))) a h := fun e o he n1 n2 => by
        have nef : e ≠ f := by rintro rfl; have z := ch2 e o he n1 n2; rw [hf2] at z; cases z
        rw [put_ne nef]; exact ch7 e o (ch6 e o he n1 n2) n1 n2
      have encs1 : encs (done ++ [.mk w ns ps]) = encs done ++ [enc (.mk w ns ps)] := by simp [encs_map]
      simp only [enc] at gs8 ch8 encs1
      split
      · rename_i hwl
        subst hwl
        have mt' := mt
        simp only [Made] at mt'
        obtain ⟨x, rfl⟩ : ∃ x, ns = [x] := List.length_eq_one_iff.mp (numsOk_len mt'.1)
        have hx : 0 ≤ x ∧ x < 10 := by simpa [numsOk] using mt'.1
        erw [True.intro]
        refine ⟨small (by decide), fun q1 hq1 => ?_⟩
        have nqp : q1 ≠ pp := Ne.symm (ne_some (by rw [put_ne npf]; exact ep7) hq1)
        erw [put_ne (Ne.symm nqp), put_ne npf, ep7, List.length_map]
        refine ⟨small (by omega), fun q2 hq2 => ?_⟩
        have al : aroundL (done ++ [.mk .lend [x] ps]) around = aroundL done around ++ [x] := by rw [aroundL_append]; simp [aroundL, Tm.w, Tm.ns]
        have nq1f : q1 ≠ f := (ne_put hq1).1
        have nq2f : q2 ≠ f := (ne_put (ne_put hq2).2).1
        simp only [lent, lentL, if_true, List.length_append, List.length_cons] at hlen7
        refine common q2 _ _ ((gs8.new hq1).new hq2) (ch8.trans ((Ch.new hq1).trans (Ch.new hq2))) ?_ ?_ ?_ ?_ nq2f ?_ ?_ ?_
        · rw [put_ne (Ne.symm nq2f), put_ne (Ne.symm nq1f), put_same, encs1]; rfl
        · rw [put_same, al]; simp
        · exact Ne.symm (ne_some (gs8.new hq1).tape.choose_spec hq2)
        · exact Ne.symm (ne_some (gs8.new hq1).hands hq2)
        · rw [al]; simp; omega
        · rw [al]; intro z hz
          rcases List.mem_append.mp hz with hz | hz
          · exact har z hz
          · have : z = x := by simpa using hz
            subst this; exact hx
        · have e9 : put st7 f (.lst (encs done ++ [enc (.mk .lend [x] ps)])) b = some (.rol (xs.map DV.int)) := by rw [put_ne nbf]; exact eb7
          have e10 := ne_some e9 hq1
          have e11 : put (put st7 f (.lst (encs done ++ [enc (.mk .lend [x] ps)]))) q1 (.lst [.int x]) b = some (.rol (xs.map DV.int)) := by rw [put_ne e10]; exact e9
          rw [put_ne (ne_some e11 hq2)]; exact e11
      · rename_i hwl
        have al : aroundL (done ++ [.mk w ns ps]) around = aroundL done around := by rw [aroundL_append]; simp [aroundL, Tm.w, hwl]
        refine common pp _ _ gs8 ch8 ?_ ?_ npa nph npf ?_ ?_ ?_
        · rw [put_same, encs1]
        · rw [put_ne npf, al]; exact ep7
        · rw [al]; omega
        · rw [al]; exact har
        · rw [put_ne nbf]; exact eb7
  · rintro ρ st6 ⟨done, ys, hs', pp, x13, x14, er, rfl, hlen', md, wd, ld, sd, yg, hd, gs6, ch6, ef, ep, npa, nph, npf, hal, har, heb, eb⟩
    cases ys with
    | cons y ys => cases er
    | nil =>
      simp only [List.length_nil] at hlen'
      have lf : lstAt (put st6 b (.lst (xs.map DV.int))) f = some (encs done) := by rw [lstAt_put (Ne.symm nbf)]; exact lstAt_lst ef
      erw [lf]
      refine ⟨small (by decide), small (by rw [encs_length]; omega), Rt.of (q (.mk .row [] done) hs' _ ?_ ?_ ?_ ?_ ?_ (gs6.other nba nbh nbk) ?_)⟩
      · simp [Made, numsOk, partsN, md]; omega
      · simp [waits, wd]
      · rw [ld]; simp [lent]
      · simp [size]; simp at sd; omega
      · simp [high]; omega
      · intro e o he n1 n2
        rw [put_ne (heb e o he)]; exact ch6 e o he n1 n2
  · have neb : e ≠ b := by
      rintro rfl
      have z := ch5 e o he n1 n2
      rw [b5] at z; cases z
    rw [put_ne neb]; exact ch5 e o he n1 n2
  · rintro rfl
    by_cases n1 : e = a
    · exact nba n1
    · by_cases n2 : e = h
      · exact nbh n2
      · have z := ch5 e o he n1 n2
        rw [b5] at z; cases z

theorem cal_term (D : Def K mg "_law_term" s__law_term ["tape", "known", "around", "room", "deep"]) (b_list : mg "list" = none) (b_tuple : mg "tuple" = none) (b_min : mg "min" = none) (C1 : Cal P w K mg base 1 "_law_digit" ["tape", "many"] spDigit) (C2 : Cal P w K mg base 2 "_law_shares" ["tape", "room", "many"] spShares)
    (C3 : Cal P w K mg base 3 "_law_leaf" ["tape", "known", "around"] spLeaf) : ∀ n : Nat, Cal P w K mg base (n + 3) "_law_term" ["tape", "known", "around", "room", "deep"] (spTerm n)
  | 0 => (cal_none D fun ds st Q W ⟨a, kd, h, ar, room, deep, c, hs, around, _, _, _, _, _, _, _, _, _, _, _, _, d0, d1, _⟩ => by omega).mono (Nat.zero_le _)
  | n + 1 => cal_term1 D b_list b_tuple b_min C1 C2 C3 (cal_term D b_list b_tuple b_min C1 C2 C3 n)
abbrev s__law_book : Stmt := (topS 18)
abbrev N__law_book : List Str := ["script", "start", "lends", "tape", "cells", "hands", "turn", "known", "room"]
theorem sc__law_book : FnScope N__law_book ["script", "start", "lends"] (defScope s__law_book) := ⟨rfl, rfl, rfl, by decide +kernel, rfl, by decide +kernel, by decide +kernel⟩
def spBook : DSp := fun ds st Q _ => ∃ (s : Addr) (start : Int) (lends : Bool) (ns : List Int), ds = [.ref s, .int start, .bl lends] ∧ lstAt st s = some (ns.map DV.int) ∧ 0 ≤ start ∧ ∀ (c : Int) (t : Tm), Bk c t → (lends = false → lent t = []) → Q (encB c t) st
theorem digit_cases5 {d : Int} (h0 : 0 ≤ d) (h1 : d < 5) : ∃ r : Int, 1 ≤ r ∧ r ≤ 60 ∧ L2.atI [DV.int 6, .int 12, .int 24, .int 40, .int 60] d = some (.int r) := by
  have : d = 0 ∨ d = 1 ∨ d = 2 ∨ d = 3 ∨ d = 4 := by omega
  rcases this with rfl | rfl | rfl | rfl | rfl
  · exact ⟨6, by decide, by decide, atI_nat (j := 0) rfl⟩
  · exact ⟨12, by decide, by decide, atI_nat (j := 1) rfl⟩
  · exact ⟨24, by decide, by decide, atI_nat (j := 2) rfl⟩
  · exact ⟨40, by decide, by decide, atI_nat (j := 3) rfl⟩
  · exact ⟨60, by decide, by decide, atI_nat (j := 4) rfl⟩
def tenH : List Int := [0, 1, 2, 3, 4, 5, 6, 7, 8, 9]
theorem cal_book (D : Def K mg "_law_book" s__law_book ["script", "start", "lends"]) (b_int : mg "int" = none) (C__law_tape : Cal P w K mg base 2 "_law_tape" ["script", "k"] spTape) (C__law_digit : Cal P w K mg base 1 "_law_digit" ["tape", "many"] spDigit) (C__law_term : Cal P w K mg base 16 "_law_term" ["tape", "known", "around", "room", "deep"] (spTerm 13)) :
    Cal P w K mg base 17 "_law_book" ["script", "start", "lends"] spBook := by
  refine cal_ok D sc__law_book (fun f cdv A outer s0 H E hr => (dss_cons (ds_set 3 sc__law_book.nd (de_c C__law_tape hr (passes_call (takes_of rfl rfl rfl rfl) (fun _ _ _ _ h => h)) (da_cons (de_var 0) (da_cons (de_var 1) da_nil))))
      (dss_cons (ds_set 4 sc__law_book.nd (de_op op_addU dop_add de_int (de_c C__law_digit hr (passes_call (takes_of rfl rfl rfl rfl) (fun _ _ _ _ h => h)) (da_cons (de_var 3) (da_cons de_int da_nil)))))
      (dss_cons (ds_set 5 sc__law_book.nd (de_lst (da_cons de_int (da_cons de_int (da_cons de_int (da_cons de_int (da_cons de_int (da_cons de_int (da_cons de_int (da_cons de_int (da_cons de_int (da_cons de_int da_nil))))))))))))
      (dss_cons (ds_set 6 sc__law_book.nd (de_c C__law_digit hr (passes_call (takes_of rfl rfl rfl rfl) (fun _ _ _ _ h => h)) (da_cons (de_var 3) (da_cons de_int da_nil))))
      (dss_cons (ds_set 7 sc__law_book.nd (de_ddisp (dps_cons de_str (de_var 4) (dps_cons de_str (de_op op_mulU dop_mul (de_op op_addU dop_add (de_slice sl_U dsl_U (de_var 5) (do_some (de_var 6)) do_none) (de_slice sl_U dsl_U (de_var 5) do_none (do_some (de_var 6)))) (de_ty call_int1 dc_int b_int (by decide +kernel) (da_cons (de_var 2) da_nil))) dps_nil))))
      (dss_cons (ds_set 8 sc__law_book.nd (de_ix (de_lst (da_cons de_int (da_cons de_int (da_cons de_int (da_cons de_int (da_cons de_int da_nil)))))) (de_c C__law_digit hr (passes_call (takes_of rfl rfl rfl rfl) (fun _ _ _ _ h => h)) (da_cons (de_var 3) (da_cons de_int da_nil))) (fun _ _ => rfl)))
      (dss_one (ds_ret (de_tup (da_cons (de_var 4) (da_cons (de_c C__law_term hr (passes_call (takes_of rfl rfl rfl rfl) (fun _ _ _ _ h => h)) (da_cons (de_var 3) (da_cons (de_var 7) (da_cons (de_lst da_nil) (da_cons (de_var 8) (da_cons de_int da_nil)))))) da_nil)))))))))))) ?_
  rintro _ st Q W ⟨s, start, lends, ns, rfl, hl, h0, q⟩
  refine ⟨rfl, ?_⟩
  simp only [startD, List.map_cons, List.map_nil, List.length_cons, List.length_nil, Nat.reduceAdd, Nat.reduceSub, Nat.zero_add, List.replicate_succ, List.replicate_zero, List.cons_append, List.nil_append]
  -- tape, cells
  refine seq_by (fun ρ1 st1 => ∃ (a : Addr) (n : Int), ρ1 = [some (.ref s), some (.int start), some (.bl lends), some (.ref a), none, none, none, none, none] ∧ st a = none ∧ st1 = put st a (.lst [.int n])) (fun N hN => ?_) ?_
  · rwa [True.intro]
    refine ⟨s, start, ns, rfl, hl, h0, fun n a ha => ?_⟩
    rwa [True.intro]
    exact hN _ _ ⟨a, n, rfl, ha, rfl⟩
  rintro _ _ ⟨a, n, rfl, ha, rfl⟩
  erw [True.intro]
  refine ⟨a, n, 6, rfl, put_same, by decide, by decide, fun d m dd0 dd1 => ?_⟩
  rw [put_put]
  erw [True.intro]
  refine ⟨small (by decide), fun l hl' => ?_⟩
  have nal : a ≠ l := ne_some put_same hl'
  refine ⟨a, m, 10, rfl, by rw [put_ne nal, put_same], by decide, by decide, fun tn m2 t0 t1 => ?_⟩
  have etn : tn = ((tn.toNat : Nat) : Int) := by omega
  generalize hS1 : put (put (put st a (.lst [.int m])) l (.lst [DV.int 0, .int 1, .int 2, .int 3, .int 4, .int 5, .int 6, .int 7, .int 8, .int 9])) a (.lst [.int m2]) = st1
  have ll1 : lstAt st1 l = some (tenH.map DV.int) := by rw [← hS1, lstAt_put (Ne.symm nal), lstAt_same]; rfl
  have a1 : st1 a = some (.lst [.int m2]) := by rw [← hS1, put_same]
  have old : ∀ e o, st e = some o → st1 e = some o := fun e o he => by
    have h1 := ne_some he ha
    have h2 : e ≠ l := ne_some (by rw [put_ne h1]; exact he) hl'
    rw [← hS1, put_ne h1, put_ne h2, put_ne h1]; exact he
  have ec1 : cutD (tenH.map DV.int) (some tn) none = (tenH.map DV.int).drop tn.toNat := by have := cutD_from (tenH.map DV.int) tn.toNat; rw [← etn] at this; exact this
  have ec2 : cutD (tenH.map DV.int) none (some tn) = (tenH.map DV.int).take tn.toNat := by have := cutD_to (tenH.map DV.int) tn.toNat; rw [← etn] at this; exact this
  erw [ll1, ec1, ec2]
  intro p1 hp1
  have np1 : p1 ≠ l := Ne.symm (ne_some (lstAt_some ll1).choose_spec hp1)
  erw [lstAt_put (Ne.symm np1), ll1, ec1, ec2]
  intro p2 hp2
  have np2 : p1 ≠ p2 := ne_some put_same hp2
  erw [put_ne np2]
  refine ⟨small (by simp [tenH]; omega), fun p3 hp3 => ?_⟩
  erw [True.intro]
  have hrot : ∃ hs : List Int, (List.replicate (if lends = true then (1 : Int) else 0).toNat ((tenH.map DV.int).drop tn.toNat ++ (tenH.map DV.int).take tn.toNat)).flatten = hs.map DV.int ∧ hs.Nodup ∧ (∀ x ∈ hs, 0 ≤ x ∧ x < 10) ∧ hs.length ≤ 10 ∧ (lends = false → hs = []) := by
    cases lends with
    | false => exact ⟨[], rfl, List.nodup_nil, by simp, by simp, fun _ => rfl⟩
    | true =>
      refine ⟨tenH.drop tn.toNat ++ tenH.take tn.toNat, by simp, ?_, fun x hx => ?_, by simp [tenH]; omega, fun h => by cases h⟩
      · have pm : (tenH.drop tn.toNat ++ tenH.take tn.toNat).Perm tenH := List.perm_append_comm.trans (by rw [List.take_append_drop])
        exact pm.nodup_iff.mpr (by decide)
      · have pm : (tenH.drop tn.toNat ++ tenH.take tn.toNat).Perm tenH := List.perm_append_comm.trans (by rw [List.take_append_drop])
        have hx' := pm.mem_iff.mp hx
        simp [tenH] at hx'
        omega
  obtain ⟨hs, ehs, hnd, hrg, hln, hno⟩ := hrot
  refine ⟨⟨by split <;> decide, by split <;> decide, small (by simp [tenH]; split <;> simp <;> omega)⟩, fun h hh => ?_⟩
  rw [ehs]
  refine ⟨⟨by decide, by decide +kernel⟩, fun kd hkd => ?_⟩
  have nhk : h ≠ kd := ne_some put_same hkd
  generalize hS2 : put (put (put st1 p1 (.lst ((tenH.map DV.int).drop tn.toNat))) p2 (.lst ((tenH.map DV.int).take tn.toNat))) p3 (.lst ((tenH.map DV.int).drop tn.toNat ++ (tenH.map DV.int).take tn.toNat)) = st2f at hh hkd ⊢
  have old2 : ∀ e o, st1 e = some o → st2f e = some o := fun e o he => by
    have h1 := ne_some he hp1
    have e1 : put st1 p1 (.lst ((tenH.map DV.int).drop tn.toNat)) e = some o := by rw [put_ne h1]; exact he
    have h2 := ne_some e1 hp2
    have e2 : put (put st1 p1 (.lst ((tenH.map DV.int).drop tn.toNat))) p2 (.lst ((tenH.map DV.int).take tn.toNat)) e = some o := by rw [put_ne h2]; exact e1
    rw [← hS2, put_ne (ne_some e2 hp3)]; exact e2
  have a2 : st2f a = some (.lst [.int m2]) := old2 _ _ a1
  have nah : a ≠ h := ne_some a2 hh
  have nak : a ≠ kd := ne_some (by rw [put_ne nah]; exact a2) hkd
  refine ⟨small (by decide), fun p4 hp4 => ?_⟩
  have gs : GS (put (put st2f h (.lst (hs.map DV.int))) kd (.dck [(Sum.inr (Str.ofString "cells"), .int (1 + d)), (Sum.inr (Str.ofString "hands"), .ref h)])) a kd h (1 + d) hs := ⟨⟨m2, by rw [put_ne nak, put_ne nah]; exact a2⟩, put_same, by rw [put_ne nhk, put_same], nah⟩
  have gs4 := gs.new (o := .lst [DV.int 6, .int 12, .int 24, .int 40, .int 60]) hp4
  obtain ⟨n4, e4⟩ := gs4.tape
  have nap4 : a ≠ p4 := ne_some gs.tape.choose_spec hp4
  refine ⟨a, n4, 5, rfl, e4, by decide, by decide, fun dr m5 dr0 dr1 => ?_⟩
  obtain ⟨room, r1, r60, hat⟩ := digit_cases5 dr0 dr1
  have gs5 := gs4.draw m5
  erw [lstAt_put (Ne.symm nap4), hat]
  refine ⟨small (by decide), fun p6 hp6 => ?_⟩
  have gs6 := gs5.new (o := .lst []) hp6
  refine ⟨a, kd, h, p6, room, 12, 1 + d, hs, [], rfl, gs6, by omega, by omega, Ne.symm (ne_some gs5.tape.choose_spec hp6), Ne.symm (ne_some gs5.hands hp6), lstAt_same, by simp; omega, by simp, hrg, r1, r60, by decide, by decide, fun t hs' st7 mt wt lt sz hg gs7 ch7 => ?_⟩
  have hnd2 : (lent t).Nodup := by
    rw [lt, List.nodup_append] at hnd
    exact (List.reverse_perm _).nodup_iff.mp hnd.2.1
  refine ⟨small (by decide), st, fun e o he => ?_, q (1 + d) t ⟨by omega, by omega, mt, wt, hnd2, by omega, by omega⟩ fun hf => ?_⟩
  · have f1 : st2f e = some o := old2 _ _ (old e o he)
    have n1 : e ≠ h := ne_some f1 hh
    have f2 : put st2f h (.lst (hs.map DV.int)) e = some o := by rw [put_ne n1]; exact f1
    have n2 := ne_some f2 hkd
    have f3 : put (put st2f h (.lst (hs.map DV.int))) kd (.dck [(Sum.inr (Str.ofString "cells"), .int (1 + d)), (Sum.inr (Str.ofString "hands"), .ref h)]) e = some o := by rw [put_ne n2]; exact f2
    have n3 := ne_some f3 hp4
    have n4 : e ≠ a := ne_some he ha
    have f4 : put (put (put (put st2f h (.lst (hs.map DV.int))) kd (.dck [(Sum.inr (Str.ofString "cells"), .int (1 + d)), (Sum.inr (Str.ofString "hands"), .ref h)])) p4 (.lst [DV.int 6, .int 12, .int 24, .int 40, .int 60])) a (.lst [.int m5]) e = some o := by rw [put_ne n4, put_ne n3]; exact f3
    exact ch7 e o (by rw [put_ne (ne_some f4 hp6)]; exact f4) n4 n1
  · have := hno hf
    rw [this] at lt
    have := congrArg List.length lt
    simp at this
    exact List.length_eq_zero_iff.mp (by omega)

theorem gen_book (D1 : Def K mg "_law_cell_at" s__law_cell_at ["script", "k"]) (D2 : Def K mg "_law_tape" s__law_tape ["script", "k"]) (D3 : Def K mg "_law_digit" s__law_digit ["tape", "many"]) (D4 : Def K mg "_law_shares" s__law_shares ["tape", "room", "many"]) (D5 : Def K mg "_law_deed" s__law_deed ["tape", "known"])
    (D6 : Def K mg "_law_leaf" s__law_leaf ["tape", "known", "around"]) (D7 : Def K mg "_law_term" s__law_term ["tape", "known", "around", "room", "deep"]) (D8 : Def K mg "_law_book" s__law_book ["script", "start", "lends"]) (b_int : mg "int" = none) (b_len : mg "len" = none) (b_range : mg "range" = none) (b_list : mg "list" = none) (b_tuple : mg "tuple" = none) (b_min : mg "min" = none) :
    Cal P w K mg base 17 "_law_book" ["script", "start", "lends"] spBook := by
  have C1 := cal_cell_at (P := P) (w := w) (base := base) D1 b_len
  have C2 := cal_tape D2 C1
  have C3 := cal_digit (P := P) (w := w) (base := base) D3
  have C4 := cal_shares D4 b_range C3
  have C5 := cal_deed D5 C3
  have C6 := cal_leaf D6 b_len C3 C5
  exact cal_book D8 b_int C2 C3 (cal_term D7 b_list b_tuple b_min C3 C4 C6 13)

abbrev s_parts_of : Stmt := (topS 1)
abbrev N_parts_of : List Str := ["term"]
theorem sc_parts_of : FnScope N_parts_of ["term"] (defScope s_parts_of) := ⟨rfl, rfl, rfl, by decide +kernel, rfl, by decide +kernel, by decide +kernel⟩
def sp_parts_of : DSp := fun ds st Q _ => ∃ t, ds = [enc t] ∧ Ok t ∧ Q (.tup (encs t.ps)) st
theorem cal_parts_of (D : Def K mg "parts_of" s_parts_of ["term"]) : Cal P w K mg base 1 "parts_of" ["term"] sp_parts_of := by
  refine cal_ok D sc_parts_of (fun f cdv A outer s0 H E hr => (dss_cons (ds_if (dw_dt (dw_or (dt_cmp (op_eqU hr.units) dop_eq (de_ix (de_var 0) de_int (fun _ _ => rfl)) de_str (nomark _)) (dw_or1 (dt_cmp (op_eqU hr.units) dop_eq (de_ix (de_var 0) de_int (fun _ _ => rfl)) de_str (nomark _))))) (dss_one (ds_ret (de_slice sl_U dsl_U (de_var 0) (do_some de_int) do_none))) dss_nil)
      (dss_cons (ds_if (dw_dt (dw_or (dt_cmp (op_eqU hr.units) dop_eq (de_ix (de_var 0) de_int (fun _ _ => rfl)) de_str (nomark _)) (dw_or1 (dt_cmp (op_eqU hr.units) dop_eq (de_ix (de_var 0) de_int (fun _ _ => rfl)) de_str (nomark _))))) (dss_one (ds_ret (de_slice sl_U dsl_U (de_var 0) (do_some de_int) do_none))) dss_nil)
      (dss_one (ds_ret (de_tup da_nil)))))) ?_
  rintro _ st Q W ⟨⟨wd, ns, ps⟩, rfl, ⟨hn, hl, _⟩, q⟩
  refine ⟨rfl, ?_⟩
  erw [enc]
  have q' : Rt Q (.tup (encs ps)) st := Rt.of q
  cases wd <;> simp only [Wd.nums, Wd.leaf] at hn hl
  all_goals simp only [reduceCtorEq, if_true, if_false, List.drop_succ_cons, List.drop_zero]
  case look => obtain ⟨n, rfl⟩ := List.length_eq_one_iff.mp hn; exact q'
  case lend => obtain ⟨n, rfl⟩ := List.length_eq_one_iff.mp hn; exact q'
  case row => cases List.length_eq_zero_iff.mp hn; exact q'
  case both => cases List.length_eq_zero_iff.mp hn; exact q'
  all_goals (have e := hl trivial; subst e; exact ⟨Nat.zero_le _, q'⟩)

abbrev s_places_in : Stmt := (topS 2)
abbrev N_places_in : List Str := ["term", "place", "found", "number", "part"]
theorem sc_places_in : FnScope N_places_in ["term", "place"] (defScope s_places_in) := ⟨rfl, rfl, rfl, by decide +kernel, rfl, by decide +kernel, by decide +kernel⟩
def sp_places_in (n : Nat) : DSp := fun ds st Q _ => ∃ t p, ds = [enc t, encP p] ∧ Ok t ∧ high t ≤ n ∧ p.length + high t ≤ 1000 ∧ size t ≤ 10000 ∧ ∀ a, st a = none → Q (.ref a) (put st a (.lst ((placesIn t p).map encP)))
theorem cal_places_in1 {n : Nat} (D : Def K mg "places_in" s_places_in ["term", "place"]) (b_enumerate : mg "enumerate" = none) (C_parts_of : Cal P w K mg base 1 "parts_of" ["term"] sp_parts_of) (C_places_in : Cal P w K mg base (n + 1) "places_in" ["term", "place"] (sp_places_in n)) : Cal P w K mg base (n + 2) "places_in" ["term", "place"] (sp_places_in (n + 1)) := by
  refine cal_ok D sc_places_in (fun f cdv A outer s0 H E hr => (dss_cons (ds_set 2 sc_places_in.nd (de_lst (da_cons (de_var 1) da_nil)))
      (dss_cons (ds_for (passes_of rfl) rfl (di_enum b_enumerate (da_cons (de_c C_parts_of hr (passes_call (takes_of rfl rfl rfl rfl) (fun _ _ _ _ h => h)) (da_cons (de_var 0) da_nil)) da_nil)) (dg_tup (n := 2) rfl (dgs_cons (dg_name 3 sc_places_in.nd) (dgs_cons (dg_name 4 sc_places_in.nd) dgs_nil))) (dss_one (ds_expr (de_lm PySem.F.slot_list_extend PySem.F.type_list_extend mt_extend dm_extend (de_var 2) (da_cons (de_c C_places_in hr (passes_call (takes_of rfl rfl rfl rfl) (fun _ _ _ _ h => h)) (da_cons (de_var 4) (da_cons (de_op op_addU dop_add (de_var 1) (de_tup (da_cons (de_var 3) da_nil))) da_nil))) da_nil)))))
      (dss_one (ds_ret (de_var 2)))))) ?_
  rintro _ st Q W ⟨⟨wd, ns, ps⟩, p, rfl, ok, hh, hp, hsz, q⟩
  refine ⟨rfl, ?_⟩
  erw [encP]
  refine ⟨small (by decide), fun f hf => ⟨_, rfl, ok, ?_⟩⟩
  have okl : OkL ps := ok.2.2
  simp only [Tm.ps]
  have hmax : ∀ {t : Tm} {ts : List Tm}, t ∈ ts → high t ≤ highL ts ∧ size t ≤ sizeL ts := by
    intro t ts
    induction ts with
    | nil => intro h; cases h
    | cons u us ih =>
      intro h
      simp only [highL, sizeL]
      rcases List.mem_cons.mp h with rfl | h
      · omega
      · have := ih h; omega
  simp only [high, size] at hh hp hsz
  refine forL_by (fun rest ρ st1 => ∃ (qs : List Tm) (k : Nat) (acc : List DV) (x3 x4 : Option DV), rest = enumD k (encs qs) ∧ ρ = [some (enc (Tm.mk wd ns ps)), some (DV.tup (List.map DV.int p)), some (DV.ref f), x3, x4] ∧ (∀ t ∈ qs, t ∈ ps) ∧ st1 f = some (.lst acc) ∧ Sub st st1 ∧ acc ++ (placesL qs k p).map encP = (placesIn (.mk wd ns ps) p).map encP)
    ?_ ?_ _ _ _ ⟨ps, 0, [encP p], none, none, rfl, rfl, fun _ h => h, put_same, Sub.new hf, by simp [placesIn]⟩
  · rintro d r ρ st1 ⟨qs, k, acc, x3, x4, e, rfl, hm, ef, hsub, eacc⟩ ih
    cases qs with
    | nil => cases e
    | cons t qs =>
      simp only [encs, enumD] at e
      cases e
      have ht := hmax (hm t (by simp))
      have okt := ok_mem okl t (hm t (by simp))
      have hlen := congrArg List.length eacc
      simp only [List.length_append, List.length_map, placesIn_length, placesL_length, size, sizeL] at hlen
      erw [ef]
      refine ⟨small (by decide), small (by simp; omega), t, p ++ [(k : Int)], by simp [encP], okt, by omega, by simp; omega, by omega, fun b hb => ?_⟩
      have nfb : f ≠ b := ne_some ef hb
      erw [put_ne nfb, ef, put_same]
      refine ⟨small (by simp [placesIn_length]; omega), ih _ _ ⟨qs, k + 1, acc ++ (placesIn t (p ++ [(k : Int)])).map encP, _, _, rfl, rfl, fun t h => hm t (by simp [h]), put_same, fun a o h => ?_, ?_⟩⟩
      · have h1 : a ≠ f := ne_some h hf
        have h2 : a ≠ b := ne_some (hsub _ _ h) hb
        rw [put_ne h1, put_ne h2]; exact hsub _ _ h
      · rw [← eacc]; simp [placesL]
  · rintro ρ st1 ⟨qs, k, acc, x3, x4, e, rfl, hm, ef, hsub, eacc⟩
    cases qs with
    | cons t qs => cases e
    | nil =>
      erw [True.intro]
      refine ⟨_, fun a o h => ?_, q f hf⟩
      by_cases ha : a = f
      · subst ha; rw [put_same] at h; cases h; rw [ef, ← eacc]; simp [placesL]
      · rw [put_ne ha] at h; exact hsub _ _ h
theorem cal_places_in (D : Def K mg "places_in" s_places_in ["term", "place"]) (b_enumerate : mg "enumerate" = none) (C_parts_of : Cal P w K mg base 1 "parts_of" ["term"] sp_parts_of) : ∀ n : Nat, Cal P w K mg base (n + 1) "places_in" ["term", "place"] (sp_places_in n)
  | 0 => (cal_none D fun ds st Q W ⟨⟨wd, ns, ps⟩, p, _, _, h, _⟩ => by simp [high] at h).mono (Nat.zero_le _)
  | n + 1 => cal_places_in1 D b_enumerate C_parts_of (cal_places_in D b_enumerate C_parts_of n)
abbrev s_term_in : Stmt := (topS 3)
abbrev N_term_in : List Str := ["body", "place", "number"]
theorem sc_term_in : FnScope N_term_in ["body", "place"] (defScope s_term_in) := ⟨rfl, rfl, rfl, by decide +kernel, rfl, by decide +kernel, by decide +kernel⟩
def sp_term_in : DSp := fun ds st Q _ => ∃ t p u, ds = [enc t, encP p] ∧ Ok t ∧ atP t p = some u ∧ Q (enc u) st
theorem cal_term_in (D : Def K mg "term_in" s_term_in ["body", "place"]) (C_parts_of : Cal P w K mg base 1 "parts_of" ["term"] sp_parts_of) : Cal P w K mg base 2 "term_in" ["body", "place"] sp_term_in := by
  refine cal_ok D sc_term_in (fun f cdv A outer s0 H E hr => (dss_cons (ds_for (passes_of rfl) rfl (di_seq (de_var 1)) (dg_name 2 sc_term_in.nd) (dss_one (ds_set 0 sc_term_in.nd (de_ix (de_c C_parts_of hr (passes_call (takes_of rfl rfl rfl rfl) (fun _ _ _ _ h => h)) (da_cons (de_var 0) da_nil)) (de_var 2) (fun _ _ => rfl)))))
      (dss_one (ds_ret (de_var 0))))) ?_
  rintro _ st Q W ⟨t, p, u, rfl, ok, at1, q⟩
  refine ⟨rfl, ?_⟩
  erw [encP]
  refine forL_by (fun rest ρ st1 => ∃ (r : Place) (v : Tm) (x : Option DV), rest = r.map DV.int ∧ ρ = [some (enc v), some (DV.tup (List.map DV.int p)), x] ∧ Ok v ∧ atP v r = some u ∧ st1 = st) ?_ ?_ _ _ _ ⟨p, t, _, rfl, rfl, ok, at1, rfl⟩
  · rintro d r ρ st1 ⟨r, v, x, e, rfl, okv, av, rfl⟩ ih
    cases r with
    | nil => cases e
    | cons k r =>
      rw [List.map_cons] at e
      cases e
      obtain ⟨hk, y, e1, e2⟩ := atP_cons av
      erw [True.intro]
      have hat : L2.atI (encs v.ps) k = some (enc y) := by
        obtain ⟨j, rfl⟩ := Int.eq_ofNat_of_zero_le hk
        refine atI_nat ?_
        rw [encs_map, List.getElem?_map]
        simp only [Int.toNat_natCast] at e1
        rw [e1]; rfl
      refine ⟨v, rfl, okv, ?_⟩
      erw [hat]
      exact ih _ _ ⟨r, y, _, rfl, rfl, (atP_all (p := [k]) (u := y) (by rw [atP, if_pos hk, e1]; exact atP_nil y)).1 okv, e2, rfl⟩
  · rintro ρ st1 ⟨r, v, x, e, rfl, okv, av, rfl⟩
    cases r with
    | cons k r => cases e
    | nil =>
      rw [atP_nil] at av
      cases av
      erw [True.intro]
      exact Rt.of q

abbrev s__law_parts : Stmt := (topS 19)
abbrev N__law_parts : List Str := ["term"]
theorem sc__law_parts : FnScope N__law_parts ["term"] (defScope s__law_parts) := ⟨rfl, rfl, rfl, by decide +kernel, rfl, by decide +kernel, by decide +kernel⟩
def sp__law_parts : DSp := fun ds st Q _ => ∃ t, ds = [enc t] ∧ Ok t ∧ Q (.tup (encs t.ps)) st
theorem cal__law_parts (D : Def K mg "_law_parts" s__law_parts ["term"]) : Cal P w K mg base 1 "_law_parts" ["term"] sp__law_parts := by
  refine cal_ok D sc__law_parts (fun f cdv A outer s0 H E hr => (dss_cons (ds_if (dt_cmp (op_inU (units65 hr)) dop_in (de_ix (de_var 0) de_int (fun _ _ => rfl)) (de_tup (da_cons de_str (da_cons de_str da_nil))) rfl) (dss_one (ds_ret (de_slice sl_U dsl_U (de_var 0) (do_some de_int) do_none))) dss_nil)
      (dss_cons (ds_if (dt_cmp (op_inU (units65 hr)) dop_in (de_ix (de_var 0) de_int (fun _ _ => rfl)) (de_tup (da_cons de_str (da_cons de_str da_nil))) rfl) (dss_one (ds_ret (de_slice sl_U dsl_U (de_var 0) (do_some de_int) do_none))) dss_nil)
      (dss_one (ds_ret (de_tup da_nil)))))) ?_
  rintro _ st Q W ⟨⟨wd, ns, ps⟩, rfl, ⟨hn, hl, _⟩, q⟩
  refine ⟨rfl, ?_⟩
  erw [enc]
  refine ⟨small (by decide), ?_⟩
  erw [flat_s, flats_2, in_rb]
  have q' : Rt Q (.tup (encs ps)) st := Rt.of q
  cases wd <;> simp only [Wd.nums, Wd.leaf] at hn hl
  all_goals simp [cut_1, cut_2]
  case row => cases List.length_eq_zero_iff.mp hn; exact q'
  case both => cases List.length_eq_zero_iff.mp hn; exact q'
  case look => obtain ⟨n, rfl⟩ := List.length_eq_one_iff.mp hn; exact ⟨small (by decide), q'⟩
  case lend => obtain ⟨n, rfl⟩ := List.length_eq_one_iff.mp hn; exact ⟨small (by decide), q'⟩
  all_goals (have e := hl trivial; subst e; exact ⟨small (by decide), q'⟩)

abbrev s__law_places : Stmt := (topS 21)
abbrev N__law_places : List Str := ["term", "place", "found", "k", "part"]
theorem sc__law_places : FnScope N__law_places ["term", "place"] (defScope s__law_places) := ⟨rfl, rfl, rfl, by decide +kernel, rfl, by decide +kernel, by decide +kernel⟩
def sp__law_places (n : Nat) : DSp := fun ds st Q _ => ∃ t p, ds = [enc t, encP p] ∧ Ok t ∧ high t ≤ n ∧ p.length + high t ≤ 1000 ∧ size t ≤ 10000 ∧ ∀ a, st a = none → Q (.ref a) (put st a (.lst ((placesIn t p).map encP)))
theorem cal__law_places1 {n : Nat} (D : Def K mg "_law_places" s__law_places ["term", "place"]) (b_enumerate : mg "enumerate" = none) (C__law_parts : Cal P w K mg base 1 "_law_parts" ["term"] sp__law_parts) (C__law_places : Cal P w K mg base (n + 1) "_law_places" ["term", "place"] (sp__law_places n)) : Cal P w K mg base (n + 2) "_law_places" ["term", "place"] (sp__law_places (n + 1)) := by
  refine cal_ok D sc__law_places (fun f cdv A outer s0 H E hr => (dss_cons (ds_set 2 sc__law_places.nd (de_lst (da_cons (de_var 1) da_nil)))
      (dss_cons (ds_for (passes_of rfl) rfl (di_enum b_enumerate (da_cons (de_c C__law_parts hr (passes_call (takes_of rfl rfl rfl rfl) (fun _ _ _ _ h => h)) (da_cons (de_var 0) da_nil)) da_nil)) (dg_tup (n := 2) rfl (dgs_cons (dg_name 3 sc__law_places.nd) (dgs_cons (dg_name 4 sc__law_places.nd) dgs_nil))) (dss_one (ds_expr (de_lm PySem.F.slot_list_extend PySem.F.type_list_extend mt_extend dm_extend (de_var 2) (da_cons (de_c C__law_places hr (passes_call (takes_of rfl rfl rfl rfl) (fun _ _ _ _ h => h)) (da_cons (de_var 4) (da_cons (de_op op_addU dop_add (de_var 1) (de_tup (da_cons (de_var 3) da_nil))) da_nil))) da_nil)))))
      (dss_one (ds_ret (de_var 2)))))) ?_
  rintro _ st Q W ⟨⟨wd, ns, ps⟩, p, rfl, ok, hh, hp, hsz, q⟩
  refine ⟨rfl, ?_⟩
  erw [encP]
  refine ⟨small (by decide), fun f hf => ⟨_, rfl, ok, ?_⟩⟩
  have okl : OkL ps := ok.2.2
  simp only [Tm.ps]
  have hmax : ∀ {t : Tm} {ts : List Tm}, t ∈ ts → high t ≤ highL ts ∧ size t ≤ sizeL ts := by
    intro t ts
    induction ts with
    | nil => intro h; cases h
    | cons u us ih =>
      intro h
      simp only [highL, sizeL]
      rcases List.mem_cons.mp h with rfl | h
      · omega
      · have := ih h; omega
  simp only [high, size] at hh hp hsz
  refine forL_by (fun rest ρ st1 => ∃ (qs : List Tm) (k : Nat) (acc : List DV) (x3 x4 : Option DV), rest = enumD k (encs qs) ∧ ρ = [some (enc (Tm.mk wd ns ps)), some (DV.tup (List.map DV.int p)), some (DV.ref f), x3, x4] ∧ (∀ t ∈ qs, t ∈ ps) ∧ st1 f = some (.lst acc) ∧ Sub st st1 ∧ acc ++ (placesL qs k p).map encP = (placesIn (.mk wd ns ps) p).map encP)
    ?_ ?_ _ _ _ ⟨ps, 0, [encP p], none, none, rfl, rfl, fun _ h => h, put_same, Sub.new hf, by simp [placesIn]⟩
  · rintro d r ρ st1 ⟨qs, k, acc, x3, x4, e, rfl, hm, ef, hsub, eacc⟩ ih
    cases qs with
    | nil => cases e
    | cons t qs =>
      simp only [encs, enumD] at e
      cases e
      have ht := hmax (hm t (by simp))
      have okt := ok_mem okl t (hm t (by simp))
      have hlen := congrArg List.length eacc
      simp only [List.length_append, List.length_map, placesIn_length, placesL_length, size, sizeL] at hlen
      erw [ef]
      refine ⟨small (by decide), small (by simp; omega), t, p ++ [(k : Int)], by simp [encP], okt, by omega, by simp; omega, by omega, fun b hb => ?_⟩
      have nfb : f ≠ b := ne_some ef hb
      erw [put_ne nfb, ef, put_same]
      refine ⟨small (by simp [placesIn_length]; omega), ih _ _ ⟨qs, k + 1, acc ++ (placesIn t (p ++ [(k : Int)])).map encP, _, _, rfl, rfl, fun t h => hm t (by simp [h]), put_same, fun a o h => ?_, ?_⟩⟩
      · have h1 : a ≠ f := ne_some h hf
        have h2 : a ≠ b := ne_some (hsub _ _ h) hb
        rw [put_ne h1, put_ne h2]; exact hsub _ _ h
      · rw [← eacc]; simp [placesL]
  · rintro ρ st1 ⟨qs, k, acc, x3, x4, e, rfl, hm, ef, hsub, eacc⟩
    cases qs with
    | cons t qs => cases e
    | nil =>
      erw [True.intro]
      refine ⟨_, fun a o h => ?_, q f hf⟩
      by_cases ha : a = f
      · subst ha; rw [put_same] at h; cases h; rw [ef, ← eacc]; simp [placesL]
      · rw [put_ne ha] at h; exact hsub _ _ h
theorem cal__law_places (D : Def K mg "_law_places" s__law_places ["term", "place"]) (b_enumerate : mg "enumerate" = none) (C__law_parts : Cal P w K mg base 1 "_law_parts" ["term"] sp__law_parts) : ∀ n : Nat, Cal P w K mg base (n + 1) "_law_places" ["term", "place"] (sp__law_places n)
  | 0 => (cal_none D fun ds st Q W ⟨⟨wd, ns, ps⟩, p, _, _, h, _⟩ => by simp [high] at h).mono (Nat.zero_le _)
  | n + 1 => cal__law_places1 D b_enumerate C__law_parts (cal__law_places D b_enumerate C__law_parts n)
abbrev s__law_at : Stmt := (topS 20)
abbrev N__law_at : List Str := ["body", "place", "k"]
theorem sc__law_at : FnScope N__law_at ["body", "place"] (defScope s__law_at) := ⟨rfl, rfl, rfl, by decide +kernel, rfl, by decide +kernel, by decide +kernel⟩
def sp__law_at : DSp := fun ds st Q _ => ∃ t p u, ds = [enc t, encP p] ∧ Ok t ∧ atP t p = some u ∧ Q (enc u) st
theorem cal__law_at (D : Def K mg "_law_at" s__law_at ["body", "place"]) (C__law_parts : Cal P w K mg base 1 "_law_parts" ["term"] sp__law_parts) : Cal P w K mg base 2 "_law_at" ["body", "place"] sp__law_at := by
  refine cal_ok D sc__law_at (fun f cdv A outer s0 H E hr => (dss_cons (ds_for (passes_of rfl) rfl (di_seq (de_var 1)) (dg_name 2 sc__law_at.nd) (dss_one (ds_set 0 sc__law_at.nd (de_ix (de_c C__law_parts hr (passes_call (takes_of rfl rfl rfl rfl) (fun _ _ _ _ h => h)) (da_cons (de_var 0) da_nil)) (de_var 2) (fun _ _ => rfl)))))
      (dss_one (ds_ret (de_var 0))))) ?_
  rintro _ st Q W ⟨t, p, u, rfl, ok, at1, q⟩
  refine ⟨rfl, ?_⟩
  erw [encP]
  refine forL_by (fun rest ρ st1 => ∃ (r : Place) (v : Tm) (x : Option DV), rest = r.map DV.int ∧ ρ = [some (enc v), some (DV.tup (List.map DV.int p)), x] ∧ Ok v ∧ atP v r = some u ∧ st1 = st) ?_ ?_ _ _ _ ⟨p, t, _, rfl, rfl, ok, at1, rfl⟩
  · rintro d r ρ st1 ⟨r, v, x, e, rfl, okv, av, rfl⟩ ih
    cases r with
    | nil => cases e
    | cons k r =>
      rw [List.map_cons] at e
      cases e
      obtain ⟨hk, y, e1, e2⟩ := atP_cons av
      erw [True.intro]
      have hat : L2.atI (encs v.ps) k = some (enc y) := by
        obtain ⟨j, rfl⟩ := Int.eq_ofNat_of_zero_le hk
        refine atI_nat ?_
        rw [encs_map, List.getElem?_map]
        simp only [Int.toNat_natCast] at e1
        rw [e1]; rfl
      refine ⟨v, rfl, okv, ?_⟩
      erw [hat]
      exact ih _ _ ⟨r, y, _, rfl, rfl, (atP_all (p := [k]) (u := y) (by rw [atP, if_pos hk, e1]; exact atP_nil y)).1 okv, e2, rfl⟩
  · rintro ρ st1 ⟨r, v, x, e, rfl, okv, av, rfl⟩
    cases r with
    | cons k r => cases e
    | nil =>
      rw [atP_nil] at av
      cases av
      erw [True.intro]
      exact Rt.of q

--@DICT lent_places found
--@DICT _law_lent found
abbrev s_lent_places : Stmt := (topS 4)
abbrev N_lent_places : List Str := ["body", "found", "place", "term"]
theorem sc_lent_places : FnScope N_lent_places ["body"] (defScope s_lent_places) := ⟨rfl, rfl, rfl, by decide +kernel, rfl, by decide +kernel, by decide +kernel⟩
def sp_lent_places : DSp := fun ds st Q _ => ∃ c t, ds = [enc t] ∧ Bk c t ∧ ∀ a, st a = none → Q (.ref a) (put st a (.dck (lentD (lentM t))))
theorem cal_lent_places (D : Def K mg "lent_places" s_lent_places ["body"]) (C_places_in : Cal P w K mg base 14 "places_in" ["term", "place"] (sp_places_in 13)) (C_term_in : Cal P w K mg base 2 "term_in" ["body", "place"] sp_term_in) : Cal P w K mg base 15 "lent_places" ["body"] sp_lent_places := by
  refine cal_ok D sc_lent_places (fun f cdv A outer s0 H E hr => (dss_cons (ds_set 1 sc_lent_places.nd de_knew)
      (dss_cons (ds_for (passes_of rfl) rfl (di_seq (de_c C_places_in hr (passes_call (takes_of rfl rfl rfl rfl) (fun _ _ _ _ h => h)) (da_cons (de_var 0) (da_cons (de_tup da_nil) da_nil)))) (dg_name 2 sc_lent_places.nd) (dss_cons (ds_set 3 sc_lent_places.nd (de_c C_term_in hr (passes_call (takes_of rfl rfl rfl rfl) (fun _ _ _ _ h => h)) (da_cons (de_var 0) (da_cons (de_var 2) da_nil))))
      (dss_one (ds_if (dt_cmp (op_eqU hr.units) dop_eq (de_ix (de_var 3) de_int (fun _ _ => rfl)) de_str (nomark _)) (dss_one (ds_asg (de_op op_addU dop_add (de_var 2) (de_tup (da_cons de_int da_nil))) (dg_sub (set_k (units65 hr)) dset_k (de_var 1) (de_ix (de_var 3) de_int (fun _ _ => rfl))))) dss_nil))))
      (dss_one (ds_ret (de_var 1)))))) ?_
  rintro _ st Q W ⟨c, t, rfl, bk, q⟩
  refine ⟨rfl, ?_⟩
  have ok := bk.made.ok
  have hh := bk.high
  have hs := bk.size
  erw [True.intro]
  refine fun f hf => ⟨small (by decide), t, [], rfl, ok, hh, by simp; omega, by omega, fun a ha => ?_⟩
  have nfa : f ≠ a := ne_some put_same ha
  erw [True.intro]
  rw [lockS_one put_same, put_put]
  refine forL_by (fun rest ρ st1 => ∃ (r l : List Place) (x3 x4 : Option DV), rest = r.map encP ∧ ρ = [some (enc t), some (.ref f), x3, x4] ∧ l ++ r = placesIn t [] ∧ st1 f = some (.dck (lentD (l.filterMap (lendAt t)))) ∧ ∀ e o, st e = some o → st1 e = some o)
    ?_ ?_ _ _ _ ⟨placesIn t [], [], none, none, rfl, rfl, rfl, by rw [put_ne nfa, put_same]; rfl, fun e o he => ?_⟩
  · rintro d r ρ st1 ⟨r, l, x3, x4, e, rfl, hm, ef, kp⟩ ih
    cases r with
    | nil => cases e
    | cons p r =>
      rw [List.map_cons] at e
      cases e
      obtain ⟨u, hu⟩ := mem_places0.mp (show p ∈ placesIn t [] by rw [← hm]; simp)
      have mu := (atP_all hu).2.1 c bk.made
      have hl : (l.filterMap (lendAt t)).length ≤ 60 := by
        have h1 := List.length_filterMap_le (lendAt t) l
        have h2 := congrArg List.length hm
        rw [placesIn_length, List.length_append] at h2
        omega
      have hsn : (l ++ [p]).filterMap (lendAt t) = l.filterMap (lendAt t) ++ (lendAt t p).toList := by
        rw [List.filterMap_append]
        cases z : lendAt t p <;> simp [List.filterMap, z]
      erw [True.intro]
      refine ⟨t, p, u, rfl, ok, hu, ?_⟩
      rw [enc_w u]
      erw [True.intro]
      split
      · rename_i z
        (try simp at z)
        obtain ⟨x, y, rfl⟩ := lend_shape mu z
        have hla : lendAt t p = some (x, kid p 0) := by unfold lendAt; rw [hu]; simp [Tm.w, Tm.ns]
        erw [encP]
        refine ⟨small (by decide), small (by have := (atP_all hu).2.2.1; simp; omega), ?_⟩
        simp only [Tm.ns, List.map_cons, List.cons_append]
        erw [ef]
        refine ⟨smallL (by have := lentD_len (l.filterMap (lendAt t)); omega), ih _ _ ⟨r, l ++ [p], _, _, rfl, rfl, by simpa using hm, ?_, fun e o he => ?_⟩⟩
        · rw [put_same, hsn, hla]
          simp only [Option.toList_some]
          rw [lentD_snoc]
          simp [encP, kid]
        · rw [put_ne (ne_some he hf)]; exact kp e o he
      · rename_i z
        (try simp at z)
        have hla : lendAt t p = none := by unfold lendAt; rw [hu]; simp [z]
        erw [True.intro]
        exact ih _ _ ⟨r, l ++ [p], _, _, rfl, rfl, by simpa using hm, by rw [hsn, hla]; simpa using ef, kp⟩
  · rintro ρ st1 ⟨r, l, x3, x4, e, rfl, hm, ef, kp⟩
    cases r with
    | cons k r => cases e
    | nil =>
      rw [List.append_nil] at hm
      subst hm
      erw [True.intro]
      rw [unlockS_one put_same]
      refine ⟨_, fun e o he => ?_, q f hf⟩
      by_cases hea : e = f
      · subst hea; rw [put_same] at he; cases he; rw [put_ne nfa]; exact ef
      · rw [put_ne hea] at he
        have : e ≠ a := by rintro rfl; rw [put_ne (Ne.symm nfa)] at ha; rw [ha] at he; cases he
        rw [put_ne this]; exact kp e o he
  · have n1 : e ≠ f := ne_some he hf
    have n2 : e ≠ a := by rintro rfl; rw [put_ne n1] at ha; rw [ha] at he; cases he
    rw [put_ne n2, put_ne n1]; exact he

--@DICT _law_lent found
--@DICT _law_lent found
abbrev s__law_lent : Stmt := (topS 23)
abbrev N__law_lent : List Str := ["body", "found", "place", "term"]
theorem sc__law_lent : FnScope N__law_lent ["body"] (defScope s__law_lent) := ⟨rfl, rfl, rfl, by decide +kernel, rfl, by decide +kernel, by decide +kernel⟩
def sp__law_lent : DSp := fun ds st Q _ => ∃ c t, ds = [enc t] ∧ Bk c t ∧ ∀ a, st a = none → Q (.ref a) (put st a (.dck (lentD (lentM t))))
theorem cal__law_lent (D : Def K mg "_law_lent" s__law_lent ["body"]) (C__law_places : Cal P w K mg base 14 "_law_places" ["term", "place"] (sp__law_places 13)) (C__law_at : Cal P w K mg base 2 "_law_at" ["body", "place"] sp__law_at) : Cal P w K mg base 15 "_law_lent" ["body"] sp__law_lent := by
  refine cal_ok D sc__law_lent (fun f cdv A outer s0 H E hr => (dss_cons (ds_set 1 sc__law_lent.nd de_knew)
      (dss_cons (ds_for (passes_of rfl) rfl (di_seq (de_c C__law_places hr (passes_call (takes_of rfl rfl rfl rfl) (fun _ _ _ _ h => h)) (da_cons (de_var 0) (da_cons (de_tup da_nil) da_nil)))) (dg_name 2 sc__law_lent.nd) (dss_cons (ds_set 3 sc__law_lent.nd (de_c C__law_at hr (passes_call (takes_of rfl rfl rfl rfl) (fun _ _ _ _ h => h)) (da_cons (de_var 0) (da_cons (de_var 2) da_nil))))
      (dss_one (ds_if (dt_cmp (op_eqU hr.units) dop_eq (de_ix (de_var 3) de_int (fun _ _ => rfl)) de_str (nomark _)) (dss_one (ds_asg (de_op op_addU dop_add (de_var 2) (de_tup (da_cons de_int da_nil))) (dg_sub (set_k (units65 hr)) dset_k (de_var 1) (de_ix (de_var 3) de_int (fun _ _ => rfl))))) dss_nil))))
      (dss_one (ds_ret (de_var 1)))))) ?_
  rintro _ st Q W ⟨c, t, rfl, bk, q⟩
  refine ⟨rfl, ?_⟩
  have ok := bk.made.ok
  have hh := bk.high
  have hs := bk.size
  erw [True.intro]
  refine fun f hf => ⟨small (by decide), t, [], rfl, ok, hh, by simp; omega, by omega, fun a ha => ?_⟩
  have nfa : f ≠ a := ne_some put_same ha
  erw [True.intro]
  rw [lockS_one put_same, put_put]
  refine forL_by (fun rest ρ st1 => ∃ (r l : List Place) (x3 x4 : Option DV), rest = r.map encP ∧ ρ = [some (enc t), some (.ref f), x3, x4] ∧ l ++ r = placesIn t [] ∧ st1 f = some (.dck (lentD (l.filterMap (lendAt t)))) ∧ ∀ e o, st e = some o → st1 e = some o)
    ?_ ?_ _ _ _ ⟨placesIn t [], [], none, none, rfl, rfl, rfl, by rw [put_ne nfa, put_same]; rfl, fun e o he => ?_⟩
  · rintro d r ρ st1 ⟨r, l, x3, x4, e, rfl, hm, ef, kp⟩ ih
    cases r with
    | nil => cases e
    | cons p r =>
      rw [List.map_cons] at e
      cases e
      obtain ⟨u, hu⟩ := mem_places0.mp (show p ∈ placesIn t [] by rw [← hm]; simp)
      have mu := (atP_all hu).2.1 c bk.made
      have hl : (l.filterMap (lendAt t)).length ≤ 60 := by
        have h1 := List.length_filterMap_le (lendAt t) l
        have h2 := congrArg List.length hm
        rw [placesIn_length, List.length_append] at h2
        omega
      have hsn : (l ++ [p]).filterMap (lendAt t) = l.filterMap (lendAt t) ++ (lendAt t p).toList := by
        rw [List.filterMap_append]
        cases z : lendAt t p <;> simp [List.filterMap, z]
      erw [True.intro]
      refine ⟨t, p, u, rfl, ok, hu, ?_⟩
      rw [enc_w u]
      erw [True.intro]
      split
      · rename_i z
        (try simp at z)
        obtain ⟨x, y, rfl⟩ := lend_shape mu z
        have hla : lendAt t p = some (x, kid p 0) := by unfold lendAt; rw [hu]; simp [Tm.w, Tm.ns]
        erw [encP]
        refine ⟨small (by decide), small (by have := (atP_all hu).2.2.1; simp; omega), ?_⟩
        simp only [Tm.ns, List.map_cons, List.cons_append]
        erw [ef]
        refine ⟨smallL (by have := lentD_len (l.filterMap (lendAt t)); omega), ih _ _ ⟨r, l ++ [p], _, _, rfl, rfl, by simpa using hm, ?_, fun e o he => ?_⟩⟩
        · rw [put_same, hsn, hla]
          simp only [Option.toList_some]
          rw [lentD_snoc]
          simp [encP, kid]
        · rw [put_ne (ne_some he hf)]; exact kp e o he
      · rename_i z
        (try simp at z)
        have hla : lendAt t p = none := by unfold lendAt; rw [hu]; simp [z]
        erw [True.intro]
        exact ih _ _ ⟨r, l ++ [p], _, _, rfl, rfl, by simpa using hm, by rw [hsn, hla]; simpa using ef, kp⟩
  · rintro ρ st1 ⟨r, l, x3, x4, e, rfl, hm, ef, kp⟩
    cases r with
    | cons k r => cases e
    | nil =>
      rw [List.append_nil] at hm
      subst hm
      erw [True.intro]
      rw [unlockS_one put_same]
      refine ⟨_, fun e o he => ?_, q f hf⟩
      by_cases hea : e = f
      · subst hea; rw [put_same] at he; cases he; rw [put_ne nfa]; exact ef
      · rw [put_ne hea] at he
        have : e ≠ a := by rintro rfl; rw [put_ne (Ne.symm nfa)] at ha; rw [ha] at he; cases he
        rw [put_ne this]; exact kp e o he
  · have n1 : e ≠ f := ne_some he hf
    have n2 : e ≠ a := by rintro rfl; rw [put_ne n1] at ha; rw [ha] at he; cases he
    rw [put_ne n2, put_ne n1]; exact he

abbrev s_points_behind : Stmt := (topS 6)
abbrev N_points_behind : List Str := ["body", "place", "term", "come", "gone", "parts", "found", "number", "part", "one", "other"]
theorem sc_points_behind : FnScope N_points_behind ["body", "place", "term"] (defScope s_points_behind) := ⟨rfl, rfl, rfl, by decide +kernel, rfl, by decide +kernel, by decide +kernel⟩
theorem partsN_le : ∀ {w : Wd} {n : Nat}, partsN w n = true → n ≤ 6 := by
  intro w n h
  cases w <;> simp [partsN] at h <;> omega
theorem lockS_two {st : Sto} {a b : Addr} {xs ys : List DV} (h : a ≠ b) (ea : st a = some (.lst xs)) (eb : st b = some (.lst ys)) : lockS st [a, b] = put (put st a (.rol xs)) b (.rol ys) := by
  funext c
  by_cases h1 : c = b
  · subst h1; rw [put_same]; simp [lockS, eb]
  · rw [put_ne h1]
    by_cases h2 : c = a
    · subst h2; rw [put_same]; simp [lockS, ea]
    · rw [put_ne h2]; simp [lockS, h1, h2]
theorem unlockS_two {st st' : Sto} {a b : Addr} {xs ys : List DV} (h : a ≠ b) (ea : st a = some (.lst xs)) (eb : st b = some (.lst ys)) : unlockS st st' [a, b] = put (put st' a (.lst xs)) b (.lst ys) := by
  funext c
  by_cases h1 : c = b
  · subst h1; rw [put_same]; simp [unlockS, eb]
  · rw [put_ne h1]
    by_cases h2 : c = a
    · subst h2; rw [put_same]; simp [unlockS, ea]
    · rw [put_ne h2]; simp [unlockS, h1, h2]
theorem unlockS_back {st : Sto} {a b : Addr} {xs ys : List DV} {o1 o2 : Ob} (h : a ≠ b) (ea : st a = some (.lst xs)) (eb : st b = some (.lst ys)) : unlockS st (put (put st a o1) b o2) [a, b] = st := by
  rw [unlockS_two h ea eb]
  funext c
  by_cases h1 : c = b
  · subst h1; rw [put_same, eb]
  · rw [put_ne h1]
    by_cases h2 : c = a
    · subst h2; rw [put_same, ea]
    · rw [put_ne h2, put_ne h1, put_ne h2]
theorem atI_last {α : Type} (xs : List α) (x : α) : L2.atI (xs ++ [x]) (-1) = some x := by
  unfold L2.atI L2.ixN
  rw [if_neg (by decide), if_pos (by simp; omega)]
  have e : ((-1 : Int) + ((xs ++ [x]).length : Int)).toNat = xs.length := by rw [List.length_append]; simp; omega
  rw [e]
  simp
theorem kids_succ (p : Place) (n : Nat) : kids p (n + 1) = kids p n ++ [kid p n] := by simp [kids, List.range_succ]
def encE (x : Pt × Pt) : DV := .tup [encPt x.1, encPt x.2]
def sp_points_behind : DSp := fun ds st Q _ => ∃ b t p c, ds = [b, encP p, enc t] ∧ Made c t ∧ p.length ≤ 100 ∧ ∀ a, st a = none → Q (.ref a) (put st a (.lst ((edgesP t.w t.ps.length p).map encE)))
theorem cal_points_behind (D : Def K mg "points_behind" s_points_behind ["body", "place", "term"]) (b_range : mg "range" = none) (b_len : mg "len" = none) (b_zip : mg "zip" = none) (C_parts_of : Cal P w K mg base 1 "parts_of" ["term"] sp_parts_of) : Cal P w K mg base 2 "points_behind" ["body", "place", "term"] sp_points_behind := by
  refine cal_ok D sc_points_behind (fun f cdv A outer s0 H E hr => (dss_cons (ds_set 3 sc_points_behind.nd (de_tup (da_cons de_str (da_cons (de_var 1) da_nil))))
      (dss_cons (ds_set 4 sc_points_behind.nd (de_tup (da_cons de_str (da_cons (de_var 1) da_nil))))
      (dss_cons (ds_setLc 5 (own := [("number", 7)]) rfl sc_points_behind.nd (di_range1 b_range (da_cons (de_b call_len dc_len b_len PySem.boot_len (da_cons (de_c C_parts_of hr (passes_call (takes_of rfl rfl rfl rfl) (fun _ _ _ _ h => h)) (da_cons (de_var 2) da_nil)) da_nil)) da_nil)) (blkOk_by (N := N_points_behind) (own := [("number", 7)]) (sc := defScope s_points_behind) (by decide +kernel)) (fun _ _ _ _ _ => (dgw_name 7 sc_points_behind.nd)) (fun _ _ _ _ _ => dts_nil) (fun _ _ _ _ _ => (de_op op_addU dop_add (de_var 1) (de_tup (da_cons (de_var 7) da_nil)))) (sw_true rfl rfl rfl (by decide +kernel)))
      (dss_cons (ds_if (dt_cmp (op_eqU hr.units) dop_eq (de_ix (de_var 2) de_int (fun _ _ => rfl)) de_str (nomark _)) (dss_one (ds_ret (de_lst (da_cons (de_tup (da_cons (de_var 3) (da_cons (de_tup (da_cons de_str (da_cons (de_ix (de_var 5) de_int (fun _ _ => rfl)) da_nil))) da_nil))) (da_cons (de_tup (da_cons (de_var 3) (da_cons (de_var 4) da_nil))) da_nil))))) dss_nil)
      (dss_cons (ds_if (dw_dt (dw_or (dt_cmp (op_eqU hr.units) dop_eq (de_ix (de_var 2) de_int (fun _ _ => rfl)) de_str (nomark _)) (dw_or1 (dt_cmp (op_eqU hr.units) dop_eq (de_ix (de_var 2) de_int (fun _ _ => rfl)) de_str (nomark _))))) (dss_one (ds_ret (de_op op_addU dop_add (de_lc (own := [("part", 8)]) rfl sc_points_behind.nd (di_seq (de_var 5)) (blkOk_by (N := N_points_behind) (own := [("part", 8)]) (sc := defScope s_points_behind) (by decide +kernel)) (fun _ _ _ _ _ => (dgw_name 8 sc_points_behind.nd)) (fun _ _ _ _ _ => dts_nil) (fun _ _ _ _ _ => (de_tup (da_cons (de_var 3) (da_cons (de_tup (da_cons de_str (da_cons (de_var 8) da_nil))) da_nil))))) (de_lc (own := [("part", 8)]) rfl sc_points_behind.nd (di_seq (de_var 5)) (blkOk_by (N := N_points_behind) (own := [("part", 8)]) (sc := defScope s_points_behind) (by decide +kernel)) (fun _ _ _ _ _ => (dgw_name 8 sc_points_behind.nd)) (fun _ _ _ _ _ => dts_nil) (fun _ _ _ _ _ => (de_tup (da_cons (de_tup (da_cons de_str (da_cons (de_var 8) da_nil))) (da_cons (de_var 4) da_nil)))))))) dss_nil)
      (dss_cons (ds_if (dt_cmp (op_eqU hr.units) dop_eq (de_var 5) (de_lst da_nil) (nomark _)) (dss_one (ds_ret (de_lst (da_cons (de_tup (da_cons (de_var 3) (da_cons (de_var 4) da_nil))) da_nil)))) dss_nil)
      (dss_cons (ds_set 6 sc_points_behind.nd (de_lst (da_cons (de_tup (da_cons (de_var 3) (da_cons (de_tup (da_cons de_str (da_cons (de_ix (de_var 5) de_int (fun _ _ => rfl)) da_nil))) da_nil))) (da_cons (de_tup (da_cons (de_tup (da_cons de_str (da_cons (de_ix (de_var 5) (de_neg de_int) (fun _ _ => rfl)) da_nil))) (da_cons (de_var 4) da_nil))) da_nil))))
      (dss_one (ds_ret (de_op op_addU dop_add (de_var 6) (de_lc (own := [("one", 9), ("other", 10)]) rfl sc_points_behind.nd (di_zip b_zip (da_cons (de_var 5) (da_cons (de_slice sl_U dsl_U (de_var 5) (do_some de_int) do_none) da_nil))) (blkOk_by (N := N_points_behind) (own := [("one", 9), ("other", 10)]) (sc := defScope s_points_behind) (by decide +kernel)) (fun _ _ _ _ _ => (dgw_tup (n := 2) rfl (dgsw_cons (dgw_name 9 sc_points_behind.nd) (dgsw_cons (dgw_name 10 sc_points_behind.nd) dgsw_nil)))) (fun _ _ _ _ _ => dts_nil) (fun _ _ _ _ _ => (de_tup (da_cons (de_tup (da_cons de_str (da_cons (de_var 9) da_nil))) (da_cons (de_tup (da_cons de_str (da_cons (de_var 10) da_nil))) da_nil)))))))))))))))) ?_
  rintro _ st Q W ⟨b, t, p, c, rfl, md, hpl, q⟩
  refine ⟨rfl, ?_⟩
  have hn : t.ps.length ≤ 6 := by cases t; exact partsN_le md.2.1
  have hlen : (encs t.ps).length = t.ps.length := encs_length _
  -- the parts' places
  have parts : ∀ (ρ : Rho) (N : List DV → Sto → Prop), ρ.getD 1 none = some (encP p) → ρ.length = 11 → N ((kids p t.ps.length).map encP) st → lcL (gNm 7) mYes (mOp addD (mVar 1) (mTup (aCons (mVar 7) aNil))) ρ (rangeD 0 t.ps.length) [] st N := by
    intro ρ N e1 e2 hN
    unfold rangeD
    refine lcL_pureM _ (fun k => some (encP (kid p k))) _ _ (fun k hk R hR => ?_) ?_
    · unfold stepC
      have e3 : (ρ.set 7 (some (DV.int (0 + (k : Int))))).getD 1 none = some (encP p) := by
        rw [List.getD_eq_getElem?_getD, List.getElem?_set_ne (by decide), ← List.getD_eq_getElem?_getD]; exact e1
      have e4 : (ρ.set 7 (some (DV.int (0 + (k : Int))))).getD 7 none = some (DV.int (0 + (k : Int))) := by
        rw [List.getD_eq_getElem?_getD, List.getElem?_set_self (by omega)]; rfl
      simp only [gNm, mYes, mOp, mVar_eq, e3, e4, varV_s, mTup, aCons, aNil]
      erw [encP]
      refine ⟨small (by decide), small (by simp; omega), ?_⟩
      simpa [encP, kid] using hR
    · simpa [kids, List.filterMap_eq_map', Function.comp_def] using hN
  erw [True.intro]
  refine ⟨small (by decide), small (by decide), ?_⟩
  erw [mLc]
  refine ⟨t, rfl, md.ok, ?_⟩
  erw [hlen, Int.toNat_natCast]
  refine ⟨⟨by omega, by omega⟩, small (by simp [rangeD]; omega), parts _ _ rfl rfl fun l hl => ?_⟩
  have hl1 : lstAt (put st l (.lst ((kids p t.ps.length).map encP))) l = some ((kids p t.ps.length).map encP) := lstAt_same
  have old : ∀ e o, st e = some o → put st l (.lst ((kids p t.ps.length).map encP)) e = some o := fun e o he => new_some he hl
  have el : put st l (.lst ((kids p t.ps.length).map encP)) l = some (.lst ((kids p t.ps.length).map encP)) := put_same
  generalize hS : put st l (.lst ((kids p t.ps.length).map encP)) = st1 at hl1 old el ⊢
  have fin : ∀ (es : List (Pt × Pt)) (stx : Sto), es = edgesP t.w t.ps.length p → (∀ e o, st e = some o → stx e = some o) → ∀ r, st1 r = none → stx r = none → Rt Q (.ref r) (put stx r (.lst (es.map encE))) := by
    intro es stx e1 kp r hr hr2
    subst e1
    have n : st r = none := by cases z : st r with | none => rfl | some o => rw [old r o z] at hr; cases hr
    exact ⟨_, fun e o he => by
      by_cases hea : e = r
      · subst hea; rw [put_same] at he ⊢; exact he
      · rw [put_ne hea] at he ⊢; exact kp e o he, q r n⟩
  clear parts
  obtain ⟨wd, ns, ps⟩ := t
  simp only [Tm.w, Tm.ps] at *
  have hpn := md.2.1
  have hpt : ∀ (x : Bool) (r : Place), encPt (x, r) = DV.tup [.str (ptW x), encP r] := fun _ _ => rfl
  have hin : Str.ofString "in" = ptW true := rfl
  have hout : Str.ofString "out" = ptW false := rfl
  have unl : ∀ (sx : Sto) o, sx l = some (.lst ((kids p ps.length).map encP)) → unlockS sx (put sx l o) [l] = sx := fun sx o e => by rw [unlockS_one e, put_put, put_id e]
  have s2 : 2 ≤ sizeLine := small (by decide)
  have comp : ∀ (sx : Sto) (m : ME) (f : Place → Pt × Pt) (ρ : Rho) (N : List DV → Sto → Prop), (∀ (r : Place) (R : DV → Sto → Prop), R (encE (f r)) sx → m W0 (ρ.set 8 (some (encP r))) sx R) → N (((kids p ps.length).map f).map encE) sx →
      lcL (gNm 8) mYes m ρ ((kids p ps.length).map encP) [] sx N := by
    intro sx m f ρ N hm hN
    refine lcL_pureM encP (fun r => some (encE (f r))) _ _ (fun r hr R hR => ?_) ?_
    · unfold stepC
      simp only [gNm, mYes, if_true]
      exact hm r _ hR
    · simpa [List.filterMap_eq_map', Function.comp_def] using hN
  cases wd
  case lend =>
    have e1 : ps.length = 1 := by simpa [partsN] using hpn
    rw [e1] at hl1 fin
    have e2 : L2.atI ((kids p 1).map encP) 0 = some (encP (kid p 0)) := atI_nat (j := 0) rfl
    erw [enc, hl1, e2, reduceCtorEq]
    refine ⟨s2, s2, s2, s2, fun r hr => ?_⟩
    exact fin [((true, p), (true, kid p 0)), ((true, p), (false, p))] st1 rfl old r hr hr
  case both =>
    erw [enc, hl1, reduceCtorEq]
    refine ⟨small (by simp [kids]; omega), ?_⟩
    rw [lockS_one el]
    refine comp _ _ (fun r => ((true, p), (true, r))) _ _ (fun r R hR => ?_) ?_
    · erw [wipeD]
      exact ⟨s2, s2, hR⟩
    · intro r1 hr1
      rw [unl _ _ el] at hr1 ⊢
      have nl : l ≠ r1 := ne_some el hr1
      erw [lstAt_put nl, hl1]
      refine ⟨small (by simp [kids]; omega), ?_⟩
      have el2 : put st1 r1 (.lst (((kids p ps.length).map (fun r => ((true, p), (true, r)))).map encE)) l = some (.lst ((kids p ps.length).map encP)) := new_some el hr1
      rw [lockS_one el2]
      refine comp _ _ (fun r => ((false, r), (false, p))) _ _ (fun r R hR => ?_) ?_
      · erw [wipeD]
        exact ⟨s2, s2, hR⟩
      · intro r2 hr2
        rw [unl _ _ el2] at hr2 ⊢
        have n12 : r1 ≠ r2 := ne_some put_same hr2
        erw [put_ne n12]
        refine ⟨small (by simp [kids]; omega), fun r3 hr3 => ?_⟩
        rw [← List.map_append]
        have n3 := ne_put hr3
        have n4 := ne_put n3.2
        exact fin _ _ rfl (fun e o he => new_some (new_some (old e o he) hr1) hr2) r3 n4.2 hr3
  case look =>
    erw [enc, hl1, reduceCtorEq]
    refine ⟨small (by simp [kids]; omega), ?_⟩
    rw [lockS_one el]
    refine comp _ _ (fun r => ((true, p), (true, r))) _ _ (fun r R hR => ?_) ?_
    · erw [wipeD]
      exact ⟨s2, s2, hR⟩
    · intro r1 hr1
      rw [unl _ _ el] at hr1 ⊢
      have nl : l ≠ r1 := ne_some el hr1
      erw [lstAt_put nl, hl1]
      refine ⟨small (by simp [kids]; omega), ?_⟩
      have el2 : put st1 r1 (.lst (((kids p ps.length).map (fun r => ((true, p), (true, r)))).map encE)) l = some (.lst ((kids p ps.length).map encP)) := new_some el hr1
      rw [lockS_one el2]
      refine comp _ _ (fun r => ((false, r), (false, p))) _ _ (fun r R hR => ?_) ?_
      · erw [wipeD]
        exact ⟨s2, s2, hR⟩
      · intro r2 hr2
        rw [unl _ _ el2] at hr2 ⊢
        have n12 : r1 ≠ r2 := ne_some put_same hr2
        erw [put_ne n12]
        refine ⟨small (by simp [kids]; omega), fun r3 hr3 => ?_⟩
        rw [← List.map_append]
        have n3 := ne_put hr3
        have n4 := ne_put n3.2
        exact fin _ _ rfl (fun e o he => new_some (new_some (old e o he) hr1) hr2) r3 n4.2 hr3
  case row =>
    erw [enc, hl1, reduceCtorEq]
    refine ⟨small (by decide), fun r0 hr0 => ?_⟩
    have nl : l ≠ r0 := ne_some el hr0
    have kp0 : ∀ e o, st e = some o → put st1 r0 (.lst []) e = some o := fun e o he => new_some (old e o he) hr0
    refine ⟨decide (ps.length = 0), eqIs_lists (xs := (kids p ps.length).map encP) (ys := []) (by rw [lstAt_put nl]; exact hl1) lstAt_same (plains_encP _) rfl (deeps_encP _) (Nat.zero_le _) (by simp [kids]), ?_⟩
    erw [True.intro]
    split
    · rename_i z
      refine ⟨s2, small (by decide), fun r hr => ?_⟩
      have n1 : st1 r = none := (ne_put hr).2
      exact fin [((true, p), (false, p))] (put st1 r0 (.lst [])) (by unfold edgesP; simp [z]) kp0 r n1 hr
    · rename_i z
      obtain ⟨n, hn1⟩ : ∃ n, ps.length = n + 1 := ⟨ps.length - 1, by omega⟩
      rw [hn1] at hl1 fin el comp unl
      have a0 : L2.atI ((kids p (n + 1)).map encP) 0 = some (encP (kid p 0)) := by
        refine atI_nat (j := 0) ?_
        simp [kids, List.getElem?_map]
      have a1 : L2.atI ((kids p (n + 1)).map encP) (-1) = some (encP (kid p n)) := by
        rw [kids_succ, List.map_append]
        exact atI_last _ _
      erw [lstAt_put nl, hl1, a0, a1]
      refine ⟨s2, s2, s2, s2, s2, fun r1 hr1 => ?_⟩
      have el0 : put st1 r0 (.lst []) l = some (.lst ((kids p (n + 1)).map encP)) := new_some el hr0
      have nl1 : l ≠ r1 := ne_some el0 hr1
      erw [lstAt_put nl1, lstAt_put nl, hl1]
      intro r2 hr2
      generalize hS2 : put (put st1 r0 (.lst [])) r1 (.lst [DV.tup [DV.tup [DV.str (Str.ofString "in"), encP p], DV.tup [DV.str (Str.ofString "in"), encP (kid p 0)]], DV.tup [DV.tup [DV.str (Str.ofString "out"), encP (kid p n)], DV.tup [DV.str (Str.ofString "out"), encP p]]]) = sx at hr2 ⊢
      have kp1 : ∀ e o, st e = some o → sx e = some o := fun e o he => by rw [← hS2]; exact new_some (kp0 e o he) hr1
      have el1 : sx l = some (.lst ((kids p (n + 1)).map encP)) := by rw [← hS2]; exact new_some el0 hr1
      have er1 : sx r1 = some (.lst ([((true, p), (true, kid p 0)), ((false, kid p n), (false, p))].map encE)) := by rw [← hS2, put_same]; rfl
      have free1 : ∀ r, sx r = none → st1 r = none := fun r h => by rw [← hS2] at h; exact (ne_put (ne_put h).2).2
      have nl2 : l ≠ r2 := ne_some el1 hr2
      have n12 : r1 ≠ r2 := ne_some er1 hr2
      erw [lstAt_put nl2, lstAt_lst el1]
      have ez : zipD ((kids p (n + 1)).map encP) (((kids p (n + 1)).map encP).drop 1) = ((kids p (n + 1)).zip ((kids p (n + 1)).drop 1)).map fun x => DV.tup [encP x.1, encP x.2] := by
        unfold zipD
        rw [← List.map_drop, List.zipWith_map, List.zip_eq_zipWith, List.map_zipWith]
      have hk : ((kids p (n + 1)).zip ((kids p (n + 1)).drop 1)).length ≤ 100 := by simp [kids]; omega
      rw [ez]
      refine ⟨small (by rw [List.length_map]; omega), ?_⟩
      have el2 : put sx r2 (.lst (((kids p (n + 1)).map encP).drop 1)) l = some (.lst ((kids p (n + 1)).map encP)) := new_some el1 hr2
      rw [lockS_two nl2 el2 put_same]
      refine lcL_pureM _ (fun x => some (encE ((false, x.1), (true, x.2)))) _ _ (fun x hx R hR => ?_) ?_
      · unfold stepC
        erw [wipeD]
        exact ⟨s2, s2, s2, hR⟩
      · rw [unlockS_back nl2 el2 put_same, List.nil_append, List.filterMap_eq_map']
        intro r3 hr3
        have er2 : put sx r2 (.lst (((kids p (n + 1)).map encP).drop 1)) r1 = some (.lst ([((true, p), (true, kid p 0)), ((false, kid p n), (false, p))].map encE)) := new_some er1 hr2
        have n13 : r1 ≠ r3 := ne_some er2 hr3
        erw [put_ne n13, er2]
        refine ⟨small (by simp only [List.length_map, List.length_cons, List.length_nil, Option.map_some]; omega), fun r4 hr4 => ?_⟩
        have m1 := ne_put hr4
        have m2 := ne_put m1.2
        have e9 := fin ([((true, p), (true, kid p 0)), ((false, kid p n), (false, p))] ++ ((kids p (n + 1)).zip ((kids p (n + 1)).drop 1)).map fun x => ((false, x.1), (true, x.2))) (put (put sx r2 (.lst (((kids p (n + 1)).map encP).drop 1))) r3 (.lst (((kids p (n + 1)).zip ((kids p (n + 1)).drop 1)).map ((fun x => encE ((false, x.1), (true, x.2))))))) (by unfold edgesP; simp) (fun e o he => new_some (new_some (kp1 e o he) hr2) hr3) r4 (free1 r4 m2.2) hr4
        simpa [List.map_append, List.map_map, Function.comp_def] using e9
  all_goals
    have e1 : ps = [] := List.length_eq_zero_iff.mp (by simpa [partsN] using hpn)
    subst e1
    have hl2 : lstAt st1 l = some [] := hl1
    erw [enc, hl1, reduceCtorEq]
    refine ⟨small (by decide), fun r0 hr0 => ?_⟩
    have nl : l ≠ r0 := ne_some el hr0
    refine ⟨true, eqIs_lists (xs := []) (ys := []) (by rw [lstAt_put nl]; exact hl2) lstAt_same rfl rfl (Nat.zero_le _) (Nat.zero_le _) (by simp), ?_⟩
    erw [True.intro]
    refine ⟨s2, small (by decide), fun r hr => ?_⟩
    have n1 : st1 r = none := (ne_put hr).2
    exact fin [((true, p), (false, p))] (put st1 r0 (.lst [])) rfl (fun e o he => new_some (old e o he) hr0) r n1 hr

--@DICT Net___init__ lent
--@NDICT Net___init__ self.tied
def lentPl (t : Tm) (h : Int) : Place := match lookK (lentD (lentM t)) (.inl h) with | some (.tup ds) => (intsOf ds).getD [] | _ => []
theorem lentPl_of {c : Int} {t : Tm} {h : Int} (m : Made c t) (hm : h ∈ (lentM t).map (·.1)) : lookK (lentD (lentM t)) (.inl h) = some (encP (lentPl t h)) ∧ lentPl t h ∈ placesIn t [] := by
  obtain ⟨q, h1, h2⟩ := lent_look (lentM t) h hm
  have e : lentPl t h = q := by unfold lentPl; rw [h2]; simp [encP, intsOf_map]
  obtain ⟨_, _, _, _, h3⟩ := lentM_mem m h1
  rw [e]; exact ⟨h2, h3⟩
def waitE (t : Tm) (u : Tm) (p : Place) : List (Pt × Pt) := if u.w = .wait then u.ns.map (fun h => ((false, lentPl t h), (false, p))) else []
def edgesAt (t : Tm) (p : Place) : List (Pt × Pt) := match atP t p with | some u => edgesP u.w u.ps.length p ++ waitE t u p | none => []
def edgesAll (t : Tm) : List (Pt × Pt) := (placesIn t []).flatMap (edgesAt t)
theorem edgesP_len {c : Int} {u : Tm} (mu : Made c u) (p : Place) : (edgesP u.w u.ps.length p).length ≤ 14 := by
  have hn : u.ps.length ≤ 6 := by cases u; exact partsN_le mu.2.1
  unfold edgesP kids
  split
  · simp
  · split
    · simp; omega
    · split
      · simp
      · simp; omega
theorem waitE_len {c : Int} {t u : Tm} (mu : Made c u) (p : Place) : (waitE t u p).length ≤ 1 := by
  unfold waitE
  split
  · rename_i h
    cases u
    simp only [Tm.w] at h
    subst h
    have := numsOk_len mu.1
    simp [Tm.ns, Wd.nums] at this ⊢
    omega
  · simp
theorem edgesAt_len {c : Int} {t : Tm} (m : Made c t) (p : Place) : (edgesAt t p).length ≤ 15 := by
  unfold edgesAt
  split
  · rename_i u hu
    have mu := (atP_all hu).2.1 c m
    have h1 := edgesP_len mu p
    have h2 := waitE_len (t := t) mu p
    rw [List.length_append]; omega
  · simp
theorem flat_len {α β : Type} (f : α → List β) (n : Nat) : ∀ (l : List α), (∀ x ∈ l, (f x).length ≤ n) → (l.flatMap f).length ≤ n * l.length
  | [], _ => by simp
  | x :: r, h => by
    rw [List.flatMap_cons, List.length_append, List.length_cons]
    have h1 := h x (by simp)
    have h2 := flat_len f n r fun y hy => h y (by simp [hy])
    rw [Nat.mul_succ]; omega
theorem outs_len (es : List (Pt × Pt)) (p : Pt) : (outs es p).length ≤ es.length := by
  unfold outs; rw [List.length_map]; exact List.length_filter_le _ _
theorem kid_mem {t u : Tm} {p : Place} (hu : atP t p = some u) {k : Nat} (hk : k < u.ps.length) : kid p k ∈ placesIn t [] := by
  obtain ⟨v, hv⟩ : ∃ v, u.ps[k]? = some v := ⟨_, List.getElem?_eq_getElem hk⟩
  exact mem_places0.mpr ⟨v, kid_at hu hv⟩
theorem edgesP_in {c : Int} {t u : Tm} {p : Place} (mu : Made c u) (hu : atP t p = some u) {e : Pt × Pt} (h : e ∈ edgesP u.w u.ps.length p) : e.1.2 ∈ placesIn t [] := by
  have hp : p ∈ placesIn t [] := mem_places0.mpr ⟨u, hu⟩
  have h := (edges_perm (by cases u; exact mu.2.1) p).mem_iff.mp h
  unfold edgesL at h
  rw [List.mem_append] at h
  rcases h with he | he
  · split at he
    · simp at he; subst he; exact hp
    · cases he
  · obtain ⟨k, hk, he⟩ := List.mem_flatMap.mp he
    have hk' := List.mem_range.mp hk
    have hkid := kid_mem hu hk'
    have hkid1 := kid_mem hu (k := k - 1) (by omega)
    unfold edgeK at he
    rw [List.mem_append] at he
    rcases he with he | he
    · split at he
      · simp at he; subst he; exact hp
      · simp at he; subst he; exact hkid1
    · split at he
      · simp at he; subst he; exact hkid
      · cases he
abbrev s_Net___init__ : Stmt := (inClass (topS 7) 0)
abbrev N_Net___init__ : List Str := ["self", "book", "body", "lent", "place", "term", "one", "other"]
theorem sc_Net___init__ : FnScope N_Net___init__ ["self", "book"] (defScope s_Net___init__) := ⟨rfl, rfl, rfl, by decide +kernel, rfl, by decide +kernel, by decide +kernel⟩
def sp_Net (C : Addr) : DSp := fun ds st Q _ => ∃ x c t, ds = [.ref x, encB c t] ∧ Bk c t ∧ st x = some (.ins C []) ∧
  ∀ d m st0 st', Tied st0 st' d m (edgesAll t) → (∀ p ∈ placesIn t [], ∀ b, (b, p) ∈ m.map (·.1)) → (∀ k ∈ m.map (·.1), k.2 ∈ placesIn t []) → st0 x = some (.ins C [("body", enc t), ("tied", .ref d)]) → (∀ e o, st e = some o → e ≠ x → st0 e = some o) → Q .non st'
theorem ini_Net {C_Net : Addr} (D : DefI K C_Net "Net.__init__" s_Net___init__ ["self", "book"]) (kl_Net : Klass K mg "Net" C_Net ["body", "tied"]) (C_lent_places : Cal P w K mg base 15 "lent_places" ["body"] sp_lent_places) (C_places_in : Cal P w K mg base 14 "places_in" ["term", "place"] (sp_places_in 13))
    (C_term_in : Cal P w K mg base 2 "term_in" ["body", "place"] sp_term_in) (C_points_behind : Cal P w K mg base 2 "points_behind" ["body", "place", "term"] sp_points_behind) : Ini P w K mg base 16 C_Net ["self", "book"] (sp_Net C_Net) := by
  refine ini_ok D sc_Net___init__ (fun f cdv A outer s0 H E hr => (dss_cons (ds_set 2 sc_Net___init__.nd (de_ix (de_var 1) de_int (fun _ _ => rfl)))
      (dss_cons (ds_set 3 sc_Net___init__.nd (de_c C_lent_places hr (passes_call (takes_of rfl rfl rfl rfl) (fun _ _ _ _ h => h)) (da_cons (de_var 2) da_nil)))
      (dss_cons (ds_fld kl_Net (de_var 0) (de_var 2))
      (dss_cons (ds_fld kl_Net (de_var 0) de_nnew)
      (dss_one (ds_for (passes_of rfl) rfl (di_seq (de_c C_places_in hr (passes_call (takes_of rfl rfl rfl rfl) (fun _ _ _ _ h => h)) (da_cons (de_var 2) (da_cons (de_tup da_nil) da_nil)))) (dg_name 4 sc_Net___init__.nd) (dss_cons (ds_set 5 sc_Net___init__.nd (de_c C_term_in hr (passes_call (takes_of rfl rfl rfl rfl) (fun _ _ _ _ h => h)) (da_cons (de_var 2) (da_cons (de_var 4) da_nil))))
      (dss_cons (ds_expr (de_nm PySem.F.slot_dict_setdefault PySem.F.type_dict_setdefault (mt_setdefault (units65 hr)) dm_setdefault (de_fld kl_Net (de_var 0)) (da_cons (de_tup (da_cons de_str (da_cons (de_var 4) da_nil))) (da_cons (de_lst da_nil) da_nil))))
      (dss_cons (ds_expr (de_nm PySem.F.slot_dict_setdefault PySem.F.type_dict_setdefault (mt_setdefault (units65 hr)) dm_setdefault (de_fld kl_Net (de_var 0)) (da_cons (de_tup (da_cons de_str (da_cons (de_var 4) da_nil))) (da_cons (de_lst da_nil) da_nil))))
      (dss_cons (ds_for (passes_of rfl) rfl (di_seq (de_c C_points_behind hr (passes_call (takes_of rfl rfl rfl rfl) (fun _ _ _ _ h => h)) (da_cons (de_var 2) (da_cons (de_var 4) (da_cons (de_var 5) da_nil))))) (dg_tup (n := 2) rfl (dgs_cons (dg_name 6 sc_Net___init__.nd) (dgs_cons (dg_name 7 sc_Net___init__.nd) dgs_nil))) (dss_one (ds_expr (de_lm PySem.F.slot_list_append PySem.F.type_list_append mt_append dm_append (de_nm PySem.F.slot_dict_setdefault PySem.F.type_dict_setdefault (mt_setdefault (units65 hr)) dm_setdefault (de_fld kl_Net (de_var 0)) (da_cons (de_var 6) (da_cons (de_lst da_nil) da_nil))) (da_cons (de_var 7) da_nil)))))
      (dss_one (ds_if (dt_cmp (op_eqU hr.units) dop_eq (de_ix (de_var 5) de_int (fun _ _ => rfl)) de_str (nomark _)) (dss_one (ds_expr (de_lm PySem.F.slot_list_append PySem.F.type_list_append mt_append dm_append (de_nm PySem.F.slot_dict_setdefault PySem.F.type_dict_setdefault (mt_setdefault (units65 hr)) dm_setdefault (de_fld kl_Net (de_var 0)) (da_cons (de_tup (da_cons de_str (da_cons (de_dget (hu_of hr) (de_var 3) (de_ix (de_var 5) de_int (fun _ _ => rfl))) da_nil))) (da_cons (de_lst da_nil) da_nil))) (da_cons (de_tup (da_cons de_str (da_cons (de_var 4) da_nil))) da_nil)))) dss_nil))))))))))))) ?_
  rintro _ st Q W ⟨x, c, t, rfl, bk, ex, q⟩
  refine ⟨rfl, ?_⟩
  have ok := bk.made.ok
  have hh := bk.high
  have hs := bk.size
  erw [encB]
  refine ⟨c, t, rfl, bk, fun l hl => ?_⟩
  have nxl : x ≠ l := ne_some ex hl
  erw [put_ne nxl, ex]
  refine ⟨by decide, fun d hd => ?_⟩
  generalize hA : put (put st l (Ob.dck (lentD (lentM t)))) x (Ob.ins C_Net (putFD (Str.ofString "body") (enc t) [])) = sa at hd ⊢
  have ex1 : sa x = some (.ins C_Net [("body", enc t)]) := by rw [← hA, put_same]; rfl
  have el1 : sa l = some (.dck (lentD (lentM t))) := by rw [← hA, put_ne (Ne.symm nxl), put_same]
  have ka : ∀ e o, st e = some o → e ≠ x → sa e = some o := fun e o he n => by rw [← hA, put_ne n]; exact new_some he hl
  have nxd : x ≠ d := ne_some ex1 hd
  have nld : l ≠ d := ne_some el1 hd
  erw [put_ne nxd, ex1]
  have e2 : putFD (Str.ofString "tied") (DV.ref d) [(Str.ofString "body", enc t)] = [(Str.ofString "body", enc t), (Str.ofString "tied", .ref d)] := by
    unfold putFD; rw [if_neg (by decide +kernel)]
    first | done | rfl
  simp only [List.length_cons, List.length_nil, e2]
  refine ⟨by decide, small (by decide), t, [], rfl, ok, hh, (by simp only [List.length_nil]; omega), by omega, fun a ha => ?_⟩
  generalize hB : put (put sa d (Ob.dic [])) x (Ob.ins C_Net [(Str.ofString "body", enc t), (Str.ofString "tied", DV.ref d)]) = sb at ha ⊢
  have ex2 : sb x = some (.ins C_Net [("body", enc t), ("tied", .ref d)]) := by rw [← hB, put_same]
  have ed2 : sb d = some (.dic []) := by rw [← hB, put_ne (Ne.symm nxd), put_same]
  have el2 : sb l = some (.dck (lentD (lentM t))) := by rw [← hB, put_ne (Ne.symm nxl), put_ne nld]; exact el1
  have kb : ∀ e o, st e = some o → e ≠ x → sb e = some o := fun e o he n => by rw [← hB, put_ne n]; exact new_some (ka e o he n) hd
  erw [True.intro]
  rw [lockS_one put_same, put_put]
  have ex3 := new_some (o := .rol ((placesIn t []).map encP)) ex2 ha
  have ed3 := new_some (o := .rol ((placesIn t []).map encP)) ed2 ha
  have el3 := new_some (o := .rol ((placesIn t []).map encP)) el2 ha
  have nad : a ≠ d := Ne.symm (ne_some ed2 ha)
  have T0 := Tied.start ed3
  have x0 : del (put sb a (.rol ((placesIn t []).map encP))) d x = some (.ins C_Net [("body", enc t), ("tied", .ref d)]) := by rw [del_ne nxd]; exact ex3
  have l0 : del (put sb a (.rol ((placesIn t []).map encP))) d l = some (.dck (lentD (lentM t))) := by rw [del_ne nld]; exact el3
  have a0 : del (put sb a (.rol ((placesIn t []).map encP))) d a = some (.rol ((placesIn t []).map encP)) := by rw [del_ne nad]; exact put_same
  have k0 : ∀ e o, st e = some o → e ≠ x → del (put sb a (.rol ((placesIn t []).map encP))) d e = some o := fun e o he n => by
    have h1 := kb e o he n
    have n1 : e ≠ d := by
      rintro rfl
      have h2 := ka e o he n
      rw [hd] at h2; cases h2
    rw [del_ne n1]; exact new_some h1 ha
  generalize del (put sb a (.rol ((placesIn t []).map encP))) d = s0 at T0 x0 l0 a0 k0
  generalize hL : put sb a (.rol ((placesIn t []).map encP)) = sL at T0 ⊢
  have lk : ∀ {sx : Sto} {m : List (Pt × Addr)} {es : List (Pt × Pt)}, Tied s0 sx d m es → sx x = some (.ins C_Net [("body", enc t), ("tied", .ref d)]) := fun T => T.keep _ _ x0
  have lt1 : lookF [(Str.ofString "body", enc t), (Str.ofString "tied", DV.ref d)] (Str.ofString "tied") = some (.ref d) := by
    unfold lookF; rw [List.lookup_cons]; simp only [show ((Str.ofString "tied" == Str.ofString "body") = false) from by decide +kernel]; rfl
  refine forL_by (fun rest ρ st1 => ∃ (r lp : List Place) (m : List (Pt × Addr)) (x4 x5 x6 x7 : Option DV), rest = r.map encP ∧ ρ = [some (.ref x), some (DV.tup [DV.int c, enc t]), some (enc t), some (.ref l), x4, x5, x6, x7] ∧ lp ++ r = placesIn t [] ∧ Tied s0 st1 d m (lp.flatMap (edgesAt t)) ∧ (∀ p ∈ lp, ∀ b, (b, p) ∈ m.map (·.1)) ∧ m.length ≤ 30 * lp.length ∧ ∀ k ∈ m.map (·.1), k.2 ∈ placesIn t [])
    ?_ ?_ _ _ _ ⟨placesIn t [], [], [], none, none, none, none, rfl, rfl, rfl, T0, (fun p hp => nomatch hp), Nat.zero_le _, fun k hk => nomatch hk⟩
  · rintro dd rr ρ st1 ⟨r, lp, m, x4, x5, x6, x7, e, rfl, hm, T, hk, hml, hin⟩ ih
    cases r with
    | nil => cases e
    | cons p r =>
      rw [List.map_cons] at e
      cases e
      obtain ⟨u, hu⟩ := mem_places0.mp (show p ∈ placesIn t [] by rw [← hm]; simp)
      have hpin : p ∈ placesIn t [] := by rw [← hm]; simp
      have mu := (atP_all hu).2.1 c bk.made
      have hlp : lp.length ≤ 60 := by
        have h2 := congrArg List.length hm
        rw [placesIn_length, List.length_append] at h2
        omega
      have hex := lk T
      erw [True.intro]
      refine ⟨t, p, u, rfl, ok, hu, ?_⟩
      erw [hex, lt1, dicAt_d T.dic]
      have kin : keyT (DV.tup [DV.str (Str.ofString "in"), encP p]) = some (ptEnc.key (true, p)) := keyT_pt (true, p)
      have kout : keyT (DV.tup [DV.str (Str.ofString "out"), encP p]) = some (ptEnc.key (false, p)) := keyT_pt (false, p)
      have s2 : 2 ≤ sizeLine := small (by decide)
      have s00 : 0 ≤ sizeLine := small (by decide)
      have dl : ∀ {m : List (Pt × Addr)}, m.length ≤ 3000 → (dmap ptEnc DV.ref m).length ≤ sizeLine := fun h => small (by unfold dmap; rw [List.length_map]; omega)
      refine ⟨s2, s00, fun b1 hb1 => ?_⟩
      have hd1 := new_some (o := .lst []) T.dic hb1
      erw [hd1, kin]
      refine ⟨dl (by omega), T.setd hb1 fun m1 q1 st2 T1 hq1 hk1 hl1 => ?_⟩
      erw [lk T1, lt1, dicAt_d T1.dic]
      refine ⟨s2, s00, fun b2 hb2 => ?_⟩
      have hd2 := new_some (o := .lst []) T1.dic hb2
      erw [hd2, kout]
      refine ⟨dl (by omega), T1.setd hb2 fun m2 q2 st3 T2 hq2 hk2 hl2 => ?_⟩
      have hin2 : ∀ k ∈ m2.map (·.1), k.2 ∈ placesIn t [] := fun k hk => by
        rcases (hk2 k).mp hk with hk | rfl
        · rcases (hk1 k).mp hk with hk | rfl
          · exact hin k hk
          · exact hpin
        · exact hpin
      refine ⟨_, u, p, c, rfl, mu, by have := (atP_all hu).2.2.1; omega, fun b3 hb3 => ?_⟩
      erw [True.intro]
      rw [lockS_one put_same, put_put]
      have T3 := T2.push (o := .rol ((edgesP u.w u.ps.length p).map encE)) hb3
      have h03 : s0 b3 = none := by cases z : s0 b3 with | none => rfl | some o => rw [T2.keep b3 o z] at hb3; cases hb3
      have hne := edgesP_len mu p
      have hfl : (lp.flatMap (edgesAt t)).length ≤ 15 * lp.length := flat_len _ _ _ fun q _ => edgesAt_len bk.made q
      refine forL_by (fun rest ρ sx => ∃ (r1 e1 : List (Pt × Pt)) (mx : List (Pt × Addr)) (y6 y7 : Option DV), rest = r1.map encE ∧ ρ = [some (.ref x), some (DV.tup [DV.int c, enc t]), some (enc t), some (.ref l), some (encP p), some (enc u), y6, y7] ∧ e1 ++ r1 = edgesP u.w u.ps.length p ∧
          Tied (put s0 b3 (.rol ((edgesP u.w u.ps.length p).map encE))) sx d mx (lp.flatMap (edgesAt t) ++ e1) ∧ (∀ k ∈ m2.map (·.1), k ∈ mx.map (·.1)) ∧ mx.length ≤ m2.length + e1.length ∧ ∀ k ∈ mx.map (·.1), k.2 ∈ placesIn t []) ?_ ?_ _ _ _ ⟨edgesP u.w u.ps.length p, [], m2, _, _, rfl, rfl, rfl, by rw [List.append_nil]; exact T3, fun _ h => h, Nat.le_refl _, hin2⟩
      · rintro dd rr ρ sx ⟨r1, e1, mx, y6, y7, ee, rfl, he1, TX, hkx, hlx, hinx⟩ ih2
        cases r1 with
        | nil => cases ee
        | cons ed r1 =>
          rw [List.map_cons] at ee
          cases ee
          have hxx : sx x = some (.ins C_Net [(Str.ofString "body", enc t), (Str.ofString "tied", DV.ref d)]) := TX.keep _ _ (by rw [put_ne (by rintro rfl; rw [h03] at x0; cases x0)]; exact x0)
          have hle : e1.length ≤ 14 := by have := congrArg List.length he1; simp at this; omega
          have ked : keyT (encPt ed.1) = some (ptEnc.key ed.1) := keyT_pt ed.1
          erw [encE, hxx, lt1, dicAt_d TX.dic]
          refine ⟨s00, fun b4 hb4 => ?_⟩
          have hd4 := new_some (o := .lst []) TX.dic hb4
          erw [hd4, ked]
          refine ⟨dl (by omega), TX.setd hb4 fun m4 q4 st4 T4 hq4 hk4 hl4 => ?_⟩
          have hq5 := T4.at' _ (assoc_mem hq4)
          simp only at hq5
          erw [hq5]
          refine ⟨smallL (by rw [List.length_map]; have := outs_len (lp.flatMap (edgesAt t) ++ e1) ed.1; rw [List.length_append] at this; omega), ih2 _ _ ⟨r1, e1 ++ [ed], m4, _, _, rfl, rfl, by simpa using he1, ?_, fun k hk => (hk4 k).mpr (.inl (hkx k hk)), by simp; omega, fun k hk => ?_⟩⟩
          · have T5 := T4.add (x := ed.2) hq4
            rw [List.append_assoc] at T5
            exact T5
          · rcases (hk4 k).mp hk with hk | rfl
            · exact hinx k hk
            · exact edgesP_in mu hu (by rw [← he1]; simp)
      · rintro ρ sx ⟨r1, e1, mx, y6, y7, ee, rfl, he1, TX, hkx, hlx, hinx⟩
        cases r1 with
        | cons k r => cases ee
        | nil =>
          rw [List.append_nil] at he1
          subst he1
          have TP := TX.pop (o' := .lst ((edgesP u.w u.ps.length p).map encE)) h03
          erw [True.intro]
          rw [unlockS_one put_same]
          generalize put sx b3 (.lst ((edgesP u.w u.ps.length p).map encE)) = sy at TP ⊢
          rw [enc_w u]
          erw [True.intro]
          have hlast : ∀ (es : List (Pt × Pt)) (mz : List (Pt × Addr)) (sz : Sto) (w6 w7 : Option DV), waitE t u p = es → Tied s0 sz d mz (lp.flatMap (edgesAt t) ++ edgesP u.w u.ps.length p ++ es) → (∀ k ∈ mx.map (·.1), k ∈ mz.map (·.1)) → mz.length ≤ mx.length + 1 → (∀ k ∈ mz.map (·.1), k.2 ∈ placesIn t []) → ∀ (w4 w5 : Option DV), ∃ (r' lp' : List Place) (m' : List (Pt × Addr)) (x4 x5 x6 x7 : Option DV), r.map encP = r'.map encP ∧ [some (.ref x), some (DV.tup [DV.int c, enc t]), some (enc t), some (.ref l), w4, w5, w6, w7] = [some (.ref x), some (DV.tup [DV.int c, enc t]), some (enc t), some (.ref l), x4, x5, x6, x7] ∧ lp' ++ r' = placesIn t [] ∧ Tied s0 sz d m' (lp'.flatMap (edgesAt t)) ∧ (∀ p ∈ lp', ∀ b, (b, p) ∈ m'.map (·.1)) ∧ m'.length ≤ 30 * lp'.length ∧ ∀ k ∈ m'.map (·.1), k.2 ∈ placesIn t [] := by
            intro es mz sz w6 w7 hes TZ hkz hlz hinz w4 w5
            refine ⟨r, lp ++ [p], mz, _, _, _, _, rfl, rfl, by simpa using hm, ?_, fun q hq b => ?_, ?_, hinz⟩
            · rw [List.flatMap_append, List.flatMap_singleton]
              have : edgesAt t p = edgesP u.w u.ps.length p ++ es := by unfold edgesAt; rw [hu, ← hes]
              rw [this, ← List.append_assoc]; exact TZ
            · rcases List.mem_append.mp hq with hq | hq
              · exact hkz _ (hkx _ ((hk2 _).mpr (.inl ((hk1 _).mpr (.inl (hk q hq b))))))
              · simp at hq; subst hq
                cases b with
                | true => exact hkz _ (hkx _ ((hk2 _).mpr (.inl ((hk1 _).mpr (.inr rfl)))))
                | false => exact hkz _ (hkx _ ((hk2 _).mpr (.inr rfl)))
            · rw [List.length_append, List.length_singleton]; omega
          split
          · rename_i hw
            obtain ⟨wd, ns, ps⟩ := u
            simp only [Tm.w] at hw
            subst hw
            obtain ⟨h, rfl⟩ := List.length_eq_one_iff.mp (show ns.length = 1 from numsOk_len mu.1)
            have hmem := wait_lent bk hu rfl (show h ∈ [h] by simp)
            obtain ⟨hlook, hpl⟩ := lentPl_of bk.made hmem
            have hyl := TP.keep _ _ l0
            have kk : keyT (DV.tup [DV.str (Str.ofString "out"), encP (lentPl t h)]) = some (ptEnc.key (false, lentPl t h)) := keyT_pt (false, lentPl t h)
            simp only [Tm.ns, List.map_cons, List.map_nil, List.cons_append, List.nil_append]
            erw [lk TP, lt1, dicAt_d TP.dic, hyl, hlook]
            refine ⟨s2, s00, fun b5 hb5 => ?_⟩
            have hd5 := new_some (o := .lst []) TP.dic hb5
            erw [hd5, kk]
            refine ⟨dl (by omega), TP.setd hb5 fun m5 q5 st5 T5 hq5 hk5 hl5 => ?_⟩
            have hq6 := T5.at' _ (assoc_mem hq5)
            simp only at hq6
            erw [hq6]
            refine ⟨s2, smallL (by rw [List.length_map]; have := outs_len (lp.flatMap (edgesAt t) ++ edgesP Wd.wait ps.length p) (false, lentPl t h); rw [List.length_append] at this; simp only [Tm.w, Tm.ps] at *; omega), ?_⟩
            exact ih _ _ (hlast [((false, lentPl t h), (false, p))] m5 _ _ _ rfl (T5.add (x := (false, p)) hq5) (fun k hk => (hk5 k).mpr (.inl hk)) hl5 (fun k hk => ((hk5 k).mp hk).elim (hinx k) (fun z => z ▸ hpl)) _ _)
          · rename_i hw
            erw [True.intro]
            exact ih _ _ (hlast [] mx _ _ _ (by unfold waitE; rw [if_neg hw]) (by rw [List.append_nil]; exact TP) (fun _ h => h) (Nat.le_succ _) hinx _ _)
  · rintro ρ st1 ⟨r, lp, m, x4, x5, x6, x7, e, rfl, hm, T, hk, hml, hin⟩
    cases r with
    | cons k r => cases e
    | nil =>
      rw [List.append_nil] at hm
      have T1 : Tied s0 st1 d m (edgesAll t) := by unfold edgesAll; rw [← hm]; exact T
      erw [True.intro]
      rw [unlockS_one put_same]
      have nxa : x ≠ a := ne_some ex2 ha
      refine Rt.of (q d m _ _ (T1.drop a0) (fun p hp b => hk p (by rw [hm]; exact hp) b) hin (by rw [del_ne nxa]; exact x0) fun e o he n => ?_)
      rw [del_ne (ne_some (kb e o he n) ha)]
      exact k0 e o he n

--@DICT _law_ties lent
--@NDICT _law_ties found
def baseL (u : Tm) (p : Place) : List (Pt × Pt) := if u.w.leaf = true ∨ u.w = .lend ∨ (u.w = .row ∧ u.ps.length = 0) then [((true, p), (false, p))] else []
def edgesAtL (t : Tm) (p : Place) : List (Pt × Pt) := match atP t p with | some u => baseL u p ++ waitE t u p ++ (List.range u.ps.length).flatMap (edgeK u.w u.ps.length p) | none => []
def edgesAllL (t : Tm) : List (Pt × Pt) := (placesIn t []).flatMap (edgesAtL t)
theorem flats_5 (x y z u v : Str) : flatsD [.str x, .str y, .str z, .str u, .str v] = some [.str x, .str y, .str z, .str u, .str v] := rfl
theorem in_leafl (w : Wd) : inV (.str w.str) [.str "set", .str "add", .str "copy", .str "lend", .str "wait"] = (w.leaf || decide (w = .lend)) := by cases w <;> decide +kernel
theorem in_bl (w : Wd) : inV (.str w.str) [.str "both", .str "look"] = (decide (w = .both) || decide (w = .look)) := by cases w <;> decide +kernel
theorem enc_row {c : Int} {u : Tm} (mu : Made c u) : enc u = .tup [.str "row"] ↔ (u.w = .row ∧ u.ps.length = 0) := by
  obtain ⟨w, ns, ps⟩ := u
  have hn := numsOk_len mu.1
  rw [enc]
  simp only [Tm.w, Tm.ps]
  constructor
  · intro h
    injection h with h
    have h1 := DV.str.inj (List.cons.inj h).1
    have h2 := (List.cons.inj h).2
    have h3 : w = .row := by rw [← str_row]; exact h1
    refine ⟨h3, ?_⟩
    have h4 := (List.append_eq_nil_iff.mp h2).2
    have := congrArg List.length h4
    rw [encs_length] at this
    exact this
  · rintro ⟨rfl, h⟩
    have e1 : ps = [] := List.length_eq_zero_iff.mp h
    have e2 : ns = [] := List.length_eq_zero_iff.mp hn
    subst e1 e2
    rfl
theorem edgeK_len (w : Wd) (n : Nat) (p : Place) (k : Nat) : (edgeK w n p k).length ≤ 2 := by
  unfold edgeK; split <;> split <;> simp
theorem edgesAtL_len {c : Int} {t : Tm} (m : Made c t) (p : Place) : (edgesAtL t p).length ≤ 20 := by
  unfold edgesAtL
  split
  · rename_i u hu
    have mu := (atP_all hu).2.1 c m
    have hn : u.ps.length ≤ 6 := by cases u; exact partsN_le mu.2.1
    have h1 : (baseL u p).length ≤ 1 := by unfold baseL; split <;> simp
    have h2 := waitE_len (t := t) mu p
    have h3 := flat_len (edgeK u.w u.ps.length p) 2 (List.range u.ps.length) fun k _ => edgeK_len _ _ _ k
    rw [List.length_range] at h3
    rw [List.length_append, List.length_append]; omega
  · simp
def pts2 (p : Place) : List Pt := [(true, p), (false, p)]

theorem edgesAt_perm {c : Int} {t : Tm} (m : Made c t) (p : Place) : (edgesAt t p).Perm (edgesAtL t p) := by
  unfold edgesAt edgesAtL
  cases hu : atP t p with
  | none => exact List.Perm.refl _
  | some u =>
    have mu := (atP_all hu).2.1 c m
    have h1 : (edgesP u.w u.ps.length p).Perm (edgesL u.w u.ps.length p) := edges_perm (by cases u; exact mu.2.1) p
    have h2 : edgesL u.w u.ps.length p = baseL u p ++ (List.range u.ps.length).flatMap (edgeK u.w u.ps.length p) := rfl
    rw [h2] at h1
    refine (h1.append_right _).trans ?_
    dsimp only
    rw [List.append_assoc, List.append_assoc]
    exact (List.perm_append_comm).append_left _
theorem flat_perm {α β : Type} {f g : α → List β} : ∀ (l : List α), (∀ x ∈ l, (f x).Perm (g x)) → (l.flatMap f).Perm (l.flatMap g)
  | [], _ => by simp
  | x :: r, h => by
    rw [List.flatMap_cons, List.flatMap_cons]
    exact (h x (by simp)).append (flat_perm r fun y hy => h y (by simp [hy]))
theorem outs_perm {es fs : List (Pt × Pt)} (h : es.Perm fs) (p : Pt) : (outs es p).Perm (outs fs p) := (h.filter _).map _
theorem ties_same {c : Int} {t : Tm} (m : Made c t) (p : Pt) : srtD ((outs (edgesAll t) p).map encPt) = srtD ((outs (edgesAllL t) p).map encPt) :=
  srtD_pts_perm (outs_perm (flat_perm _ fun q _ => edgesAt_perm m q) p)

/-! the ties lead from points to points -/
theorem edgesL_in {c : Int} {t : Tm} (bk : Bk c t) {e : Pt × Pt} (h : e ∈ edgesAllL t) : e.1.2 ∈ placesIn t [] ∧ e.2.2 ∈ placesIn t [] := by
  unfold edgesAllL at h
  obtain ⟨p, hp, he⟩ := List.mem_flatMap.mp h
  obtain ⟨u, hu⟩ := mem_places0.mp hp
  have mu := (atP_all hu).2.1 c bk.made
  unfold edgesAtL at he
  rw [hu] at he
  simp only [List.mem_append] at he
  rcases he with (he | he) | he
  · unfold baseL at he
    split at he
    · simp at he; subst he; exact ⟨hp, hp⟩
    · cases he
  · unfold waitE at he
    split at he
    · rename_i hw
      obtain ⟨x, hx, rfl⟩ := List.mem_map.mp he
      exact ⟨(lentPl_of bk.made (wait_lent bk hu hw hx)).2, hp⟩
    · cases he
  · obtain ⟨k, hk, he⟩ := List.mem_flatMap.mp he
    have hk' := List.mem_range.mp hk
    have hkid := kid_mem hu hk'
    have hkid1 := kid_mem hu (k := k - 1) (by omega)
    unfold edgeK at he
    rw [List.mem_append] at he
    rcases he with he | he
    · split at he
      · simp at he; subst he; exact ⟨hp, hkid⟩
      · simp at he; subst he; exact ⟨hkid1, hkid⟩
    · split at he
      · simp at he; subst he; exact ⟨hkid, hp⟩
      · cases he
theorem outs_mem {es : List (Pt × Pt)} {p q : Pt} : q ∈ outs es p ↔ (p, q) ∈ es := by
  unfold outs
  constructor
  · intro h
    obtain ⟨⟨a, b⟩, he, rfl⟩ := List.mem_map.mp h
    obtain ⟨h1, h2⟩ := List.mem_filter.mp he
    have : a = p := of_decide_eq_true h2
    subst this; exact h1
  · intro h
    exact List.mem_map.mpr ⟨(p, q), List.mem_filter.mpr ⟨h, by simp⟩, rfl⟩
theorem mem_pts2 {t : Tm} {x : Pt} : x ∈ (placesIn t []).flatMap pts2 ↔ x.2 ∈ placesIn t [] := by
  rw [List.mem_flatMap]
  constructor
  · rintro ⟨p, hp, h⟩
    simp [pts2] at h
    rcases h with rfl | rfl <;> exact hp
  · intro h
    refine ⟨x.2, h, ?_⟩
    obtain ⟨b, p⟩ := x
    cases b <;> simp [pts2]
theorem edgesAt_mem {c : Int} {t : Tm} (m : Made c t) (e : Pt × Pt) : e ∈ edgesAll t ↔ e ∈ edgesAllL t :=
  (flat_perm _ fun q _ => edgesAt_perm m q).mem_iff

--@NDICT Net_roads_from self.tied;ahead
theorem lookF_tied (t : Tm) (d : Addr) : lookF [(Str.ofString "body", enc t), (Str.ofString "tied", DV.ref d)] (Str.ofString "tied") = some (.ref d) := by
  unfold lookF; rw [List.lookup_cons]; simp only [show ((Str.ofString "tied" == Str.ofString "body") = false) from by decide +kernel]; rfl
theorem lookF_body (t : Tm) (d : Addr) : lookF [(Str.ofString "body", enc t), (Str.ofString "tied", DV.ref d)] (Str.ofString "body") = some (enc t) := by
  unfold lookF; rw [List.lookup_cons]; simp
/-- the net of a term stands at x -/
structure NetAt (C : Addr) (st : Sto) (x : Addr) (t : Tm) (d : Addr) (m : List (Pt × Addr)) (es : List (Pt × Pt)) : Prop where
  ins : st x = some (.ins C [("body", enc t), ("tied", .ref d)])
  td : TiedR st d m es
  cl : ∀ e ∈ es, e.2 ∈ m.map (·.1)
  ml : m.length ≤ 3000
  el : es.length ≤ 3000
theorem NetAt.sub {C : Addr} {st st' : Sto} {x : Addr} {t : Tm} {d : Addr} {m : List (Pt × Addr)} {es : List (Pt × Pt)} (N : NetAt C st x t d m es) (s : Sub st st') : NetAt C st' x t d m es := ⟨s _ _ N.ins, N.td.sub s, N.cl, N.ml, N.el⟩
abbrev s_Net_roads_from : Stmt := (inClass (topS 7) 1)
abbrev N_Net_roads_from : List Str := ["self", "start", "ahead", "row", "at", "point"]
theorem sc_Net_roads_from : FnScope N_Net_roads_from ["self", "start"] (defScope s_Net_roads_from) := ⟨rfl, rfl, rfl, by decide +kernel, rfl, by decide +kernel, by decide +kernel⟩
def sp_roads_from (C : Addr) : DSp := fun ds st Q _ => ∃ x start t d m es, ds = [.ref x, encPt start] ∧ NetAt C st x t d m es ∧ start ∈ m.map (·.1) ∧
  ∀ a rs, st a = none → Ahead (outs es) start rs → (∀ x ∈ rs.map (·.1), ∀ y ∈ outs es x, y ∈ rs.map (·.1)) → rs.length ≤ m.length → Q (.ref a) (put st a (.dic (dmap ptEnc encPt rs)))
theorem met_roads_from {C_Net : Addr} (D : DefM K C_Net "roads_from" "Net.roads_from" s_Net_roads_from ["self", "start"]) (kl_Net : Klass K mg "Net" C_Net ["body", "tied"]) (b_len : mg "len" = none) : Met P w K mg base 1 C_Net "roads_from" ["self", "start"] (sp_roads_from C_Net) := by
  refine met_ok D sc_Net_roads_from (fun f cdv A outer s0 H E hr => (dss_cons (ds_set 2 sc_Net_roads_from.nd (de_ndisp (units65 hr) (de_var 1) (de_var 1)))
      (dss_cons (ds_set 3 sc_Net_roads_from.nd (de_lst (da_cons (de_var 1) da_nil)))
      (dss_cons (ds_set 4 sc_Net_roads_from.nd de_int)
      (dss_cons (ds_while (passes_of rfl) (dt_cmp (op_ltU hr.units0) dop_lt (de_var 4) (de_b call_len dc_len b_len PySem.boot_len (da_cons (de_var 3) da_nil)) (nomark _)) (dss_cons (ds_for (passes_of rfl) rfl (di_seq (de_nget (units65 hr) (de_fld kl_Net (de_var 0)) (de_ix (de_var 3) (de_var 4) (fun _ _ => rfl)))) (dg_name 5 sc_Net_roads_from.nd) (dss_one (ds_if (dt_cmp (op_nnotin (units65 hr)) (dop_nin true) (de_var 5) (de_var 2) rfl) (dss_cons (ds_asg (de_ix (de_var 3) (de_var 4) (fun _ _ => rfl)) (dg_sub (set_nest (units65 hr)) dset_nest (de_var 2) (de_var 5)))
      (dss_one (ds_expr (de_lm PySem.F.slot_list_append PySem.F.type_list_append mt_append dm_append (de_var 3) (da_cons (de_var 5) da_nil))))) dss_nil)))
      (dss_one (ds_set 4 sc_Net_roads_from.nd (de_op op_addU dop_add (de_var 4) de_int)))))
      (dss_one (ds_ret (de_var 2)))))))) ?_
  rintro _ st Q W ⟨x, start, t, d, m, es, rfl, NT, hst, q⟩
  refine ⟨rfl, ?_⟩
  erw [keyT_pt]
  intro a ha
  refine ⟨small (by decide), fun r hr => ?_⟩
  have nra : r ≠ a := Ne.symm (ne_some put_same hr)
  have hr0 : st r = none := by rw [put_ne nra] at hr; exact hr
  have sub0 : Sub st (put (put st a (.dic [(encPt start, encPt start)])) r (.lst [encPt start])) := (Sub.new ha).put hr
  have ea0 : put (put st a (.dic [(encPt start, encPt start)])) r (.lst [encPt start]) a = some (.dic (dmap ptEnc encPt [(start, start)])) := by rw [put_ne (Ne.symm nra), put_same]; rfl
  have er0 := put_same (st := put st a (.dic [(encPt start, encPt start)])) (a := r) (o := .lst [encPt start])
  generalize put (put st a (.dic [(encPt start, encPt start)])) r (.lst [encPt start]) = s0 at sub0 ea0 er0
  refine ⟨fun k ρ s => ∃ (at' : Nat) (rs : List (Pt × Pt)) (x5 : Option DV), ρ = [some (.ref x), some (encPt start), some (.ref a), some (.ref r), some (.int at'), x5] ∧ k = m.length - at' ∧ Sub st s ∧ s a = some (.dic (dmap ptEnc encPt rs)) ∧ s r = some (.lst ((rs.map (·.1)).map encPt)) ∧ Ahead (outs es) start rs ∧ (∀ z ∈ rs.map (·.1), z ∈ m.map (·.1)) ∧ at' ≤ rs.length ∧ (∀ (i : Nat) z, i < at' → (rs.map (·.1))[i]? = some z → ∀ y ∈ outs es z, y ∈ rs.map (·.1)),
    ⟨_, 0, [(start, start)], none, rfl, rfl, sub0, ea0, er0, Ahead.init _ _, fun z hz => by simp at hz; subst hz; exact hst, Nat.zero_le _, fun i z h => nomatch h⟩, ?_⟩
  rintro k ρ s ⟨at', rs, x5, rfl, rfl, sub, ea, er, A, hin, hle, hcl⟩
  have hlen : rs.length ≤ m.length := by
    have := nodup_len A.nd hin
    simpa using this
  have hml := NT.ml
  erw [lstAt_lst er, List.length_map]
  split
  · rename_i hlt
    have hlt : at' < rs.length := by omega
    obtain ⟨z, hz⟩ : ∃ z, (rs.map (·.1))[at']? = some z := ⟨_, List.getElem?_eq_getElem (by rw [List.length_map]; exact hlt)⟩
    obtain ⟨v, hv⟩ := assoc_some (hin z (List.mem_of_getElem? hz))
    have NS := NT.sub sub
    have hlk : lookD (dmap ptEnc DV.ref m) (ptEnc.key z) = some (.ref v) := by rw [lookD_dmap, hv]; rfl
    have hat : L2.atI ((rs.map (·.1)).map encPt) (at' : Int) = some (encPt z) := atI_mapN hz
    obtain ⟨ov, hov⟩ := lstAt_some (NT.td.look hv)
    have nva : v ≠ a := ne_some hov ha
    have nvr : v ≠ r := ne_some hov hr0
    erw [NS.ins, lookF_tied, lstAt_lst er, hat, NS.td.dic, keyT_pt, hlk, NS.td.look hv]
    refine forL_by (fun rest ρ sx => ∃ (ys zs : List Pt) (rs' : List (Pt × Pt)) (y5 : Option DV), rest = ys.map encPt ∧ ρ = [some (.ref x), some (encPt start), some (.ref a), some (.ref r), some (.int at'), y5] ∧ zs ++ ys = outs es z ∧ (∀ e o, lockS s [v] e = some o → e ≠ a ∧ e ≠ r → sx e = some o) ∧ sx a = some (.dic (dmap ptEnc encPt rs')) ∧ sx r = some (.lst ((rs'.map (·.1)).map encPt)) ∧ Ahead (outs es) start rs' ∧ (∀ z ∈ rs'.map (·.1), z ∈ m.map (·.1)) ∧ (∃ ex, rs' = rs ++ ex) ∧ ∀ y ∈ zs, y ∈ rs'.map (·.1)) ?_ ?_ _ _ _
      ⟨outs es z, [], rs, _, rfl, rfl, rfl, fun e o h _ => h, by rw [lock_ne (by simpa using Ne.symm nva)]; exact ea, by rw [lock_ne (by simpa using Ne.symm nvr)]; exact er, A, hin, ⟨[], by simp⟩, fun y h => nomatch h⟩
    · rintro dd rr ρ sx ⟨ys, zs, rs', y5, e, rfl, hzy, kx, eax, erx, A', hin', ⟨ex, rfl⟩, hzs⟩ ih
      cases ys with
      | nil => cases e
      | cons y ys =>
        rw [List.map_cons] at e
        cases e
        have hzz : ((rs ++ ex).map (·.1))[at']? = some z := by rw [List.map_append, List.getElem?_append_left (by rw [List.length_map]; exact hlt)]; exact hz
        have hyo : y ∈ outs es z := by rw [← hzy]; simp
        have hlen' : (rs ++ ex).length ≤ m.length := by
          have := nodup_len A'.nd hin'
          simpa using this
        have hat' : L2.atI (((rs ++ ex).map (·.1)).map encPt) (at' : Int) = some (encPt z) := atI_mapN hzz
        have hlo : lookD (dmap ptEnc encPt (rs ++ ex)) (ptEnc.key y) = (assoc (rs ++ ex) y).map encPt := lookD_dmap ptEnc encPt (rs ++ ex) y
        erw [dicAt_d eax, keyT_pt, hlo, Option.isSome_map]
        split
        · rename_i hn
          have hn : assoc (rs ++ ex) y = none := by
            cases zz : assoc (rs ++ ex) y with
            | none => rfl
            | some _ => rw [zz] at hn; simp at hn
          have hsd : storeD (dmap ptEnc encPt (rs ++ ex)) (ptEnc.key y) (encPt y) (encPt z) = dmap ptEnc encPt (rs ++ ex ++ [(y, z)]) := by
            have := storeD_dmap ptEnc encPt (rs ++ ex) y z
            rw [assocPut_new hn] at this
            exact this
          erw [lstAt_lst erx, hat', eax, keyT_pt, hsd]
          refine ⟨small (by unfold dmap; rw [List.length_map]; omega), ?_⟩
          erw [put_ne nra, erx]
          refine ⟨smallL (by rw [List.length_map, List.length_map]; omega), ih _ _ ⟨ys, zs ++ [y], rs ++ ex ++ [(y, z)], _, rfl, rfl, by simpa using hzy, fun e o h n => by rw [put_ne n.2, put_ne n.1]; exact kx e o h n, by rw [put_ne (Ne.symm nra), put_same], by rw [put_same]; simp, A'.add hzz hyo (assoc_none hn), fun u hu => ?_, ⟨ex ++ [(y, z)], by simp⟩, fun u hu => ?_⟩⟩
          · rw [List.map_append, List.mem_append] at hu
            rcases hu with hu | hu
            · exact hin' u hu
            · simp at hu; subst hu; exact NT.cl _ (outs_mem.mp hyo)
          · rw [List.map_append, List.mem_append]
            rcases List.mem_append.mp hu with hu | hu
            · exact .inl (hzs u hu)
            · simp at hu; subst hu; exact .inr (by simp)
        · rename_i hn
          have hn : y ∈ (rs ++ ex).map (·.1) := assoc_iff.mp (by cases zz : assoc (rs ++ ex) y with | none => rw [zz] at hn; exact absurd rfl hn | some _ => rfl)
          erw [True.intro]
          refine ih _ _ ⟨ys, zs ++ [y], rs ++ ex, _, rfl, rfl, by simpa using hzy, kx, eax, erx, A', hin', ⟨ex, rfl⟩, fun u hu => ?_⟩
          rcases List.mem_append.mp hu with hu | hu
          · exact hzs u hu
          · simp at hu; subst hu; exact hn
    · rintro ρ sx ⟨ys, zs, rs', y5, e, rfl, hzy, kx, eax, erx, A', hin', ⟨ex, rfl⟩, hzs⟩
      cases ys with
      | cons y ys => cases e
      | nil =>
        rw [List.append_nil] at hzy
        subst hzy
        have hlen' : (rs ++ ex).length ≤ m.length := by
          have := nodup_len A'.nd hin'
          simpa using this
        erw [True.intro]
        refine ⟨m.length - (at' + 1), by omega, at' + 1, rs ++ ex, _, rfl, rfl, fun e o h => ?_, by rw [unlock_ne (by simpa using Ne.symm nva)]; exact eax, by rw [unlock_ne (by simpa using Ne.symm nvr)]; exact erx, A', hin', by rw [List.length_append]; omega, fun i u hi hu y hy => ?_⟩
        · exact unlock_keep (P := fun e => e ≠ a ∧ e ≠ r) kx e o (sub e o h) ⟨ne_some h ha, ne_some h hr0⟩
        · by_cases hia : i = at'
          · subst hia
            rw [List.map_append, List.getElem?_append_left (by rw [List.length_map]; exact hlt), hz] at hu
            cases hu
            exact hzs y hy
          · have hia : i < at' := by omega
            rw [List.map_append, List.getElem?_append_left (by rw [List.length_map]; omega)] at hu
            rw [List.map_append, List.mem_append]
            exact .inl (hcl i u hia hu y hy)
  · rename_i hlt
    have hat : at' = rs.length := by omega
    subst hat
    erw [True.intro]
    refine ⟨_, fun e o h => ?_, q a rs ha A (fun u hu y hy => ?_) hlen⟩
    · by_cases hea : e = a
      · subst hea; rw [put_same] at h; cases h; exact ea
      · rw [put_ne hea] at h; exact sub e o h
    · obtain ⟨i, hi, hu'⟩ := List.getElem_of_mem hu
      exact hcl i u (by rw [List.length_map] at hi; exact hi) (by rw [List.getElem?_eq_getElem hi, hu']) y hy

theorem min_int (a b : Nat) : (if (b : Int) < (a : Int) then (b : Int) else (a : Int)) = ((min a b : Nat) : Int) := by split <;> omega
theorem cut_to_ints (p : Place) (n : Nat) : cutD (p.map DV.int) none (some (n : Int)) = (p.take n).map DV.int := by rw [cutD_to, List.map_take]
theorem atI_intsN {p : Place} {n : Nat} {a : Int} (h : p[n]? = some a) : L2.atI (p.map DV.int) (n : Int) = some (.int a) := atI_nat (by rw [List.getElem?_map, h]; rfl)
abbrev s_Net_are_apart : Stmt := (inClass (topS 7) 2)
abbrev N_Net_are_apart : List Str := ["self", "p", "q", "many"]
theorem sc_Net_are_apart : FnScope N_Net_are_apart ["self", "p", "q"] (defScope s_Net_are_apart) := ⟨rfl, rfl, rfl, by decide +kernel, rfl, by decide +kernel, by decide +kernel⟩
def sp_are_apart (C : Addr) : DSp := fun ds st Q _ => ∃ x p q t d, ds = [.ref x, encP p, encP q] ∧ st x = some (.ins C [("body", enc t), ("tied", .ref d)]) ∧ Ok t ∧ (∃ u, atP t p = some u) ∧ p.length ≤ 1000 ∧ q.length ≤ 1000 ∧ Q (.bl (apartB t p q)) st
theorem met_are_apart {C_Net : Addr} (D : DefM K C_Net "are_apart" "Net.are_apart" s_Net_are_apart ["self", "p", "q"]) (kl_Net : Klass K mg "Net" C_Net ["body", "tied"]) (b_len : mg "len" = none) (b_min : mg "min" = none) (C_term_in : Cal P w K mg base 2 "term_in" ["body", "place"] sp_term_in) : Met P w K mg base 3 C_Net "are_apart" ["self", "p", "q"] (sp_are_apart C_Net) := by
  refine met_ok D sc_Net_are_apart (fun f cdv A outer s0 H E hr => (dss_cons (ds_set 3 sc_Net_are_apart.nd de_int)
      (dss_cons (ds_while (passes_of rfl) (dw_dt (dw_and (dt_cmp (op_ltU hr.units0) dop_lt (de_var 3) (de_b (call_min2 rfl) dc_min2 b_min (by decide +kernel) (da_cons (de_b call_len dc_len b_len PySem.boot_len (da_cons (de_var 1) da_nil)) (da_cons (de_b call_len dc_len b_len PySem.boot_len (da_cons (de_var 2) da_nil)) da_nil))) (nomark _)) (dw_and1 (dt_cmp (op_eqU hr.units) dop_eq (de_ix (de_var 1) (de_var 3) (fun _ _ => rfl)) (de_ix (de_var 2) (de_var 3) (fun _ _ => rfl)) (nomark _))))) (dss_one (ds_set 3 sc_Net_are_apart.nd (de_op op_addU dop_add (de_var 3) de_int))))
      (dss_cons (ds_if (dt_cmp (op_eqU hr.units) dop_eq (de_var 3) (de_b (call_min2 rfl) dc_min2 b_min (by decide +kernel) (da_cons (de_b call_len dc_len b_len PySem.boot_len (da_cons (de_var 1) da_nil)) (da_cons (de_b call_len dc_len b_len PySem.boot_len (da_cons (de_var 2) da_nil)) da_nil))) (nomark _)) (dss_one (ds_ret de_bl)) dss_nil)
      (dss_one (ds_ret (de_cmp (op_eqU hr.units) dop_eq (de_ix (de_c C_term_in hr (passes_call (takes_of rfl rfl rfl rfl) (fun _ _ _ _ h => h)) (da_cons (de_fld kl_Net (de_var 0)) (da_cons (de_slice sl_U dsl_U (de_var 1) do_none (do_some (de_var 3))) da_nil))) de_int (fun _ _ => rfl)) de_str (nomark _)))))))) ?_
  rintro _ st Q W ⟨x, p, q, t, d, rfl, ex, ok, ⟨u, hu⟩, hp, hq, k⟩
  refine ⟨rfl, ?_⟩
  have hc := cpl_le p q
  erw [encP]
  refine ⟨fun k ρ s => ∃ n : Nat, ρ = [some (.ref x), some (.tup (p.map DV.int)), some (.tup (q.map DV.int)), some (.int n)] ∧ n ≤ cpl p q ∧ k = cpl p q - n ∧ s = st, ⟨_, 0, rfl, Nat.zero_le _, rfl, rfl⟩, ?_⟩
  rintro kk ρ s ⟨n, rfl, hn, rfl, rfl⟩
  erw [List.length_map, min_int]
  have stop : ∀ b : Bool, b = false → n = cpl p q → (if b = true then (False : Prop) else True) := fun b h _ => by simp [h]
  have last : n = cpl p q → (if ((n : Int) = ((min p.length q.length : Nat) : Int)) then Rt Q (DV.bl false) s else ∃ t1 p1 u1, [enc t, DV.tup (cutD (p.map DV.int) none (some (n : Int)))] = [enc t1, encP p1] ∧ Ok t1 ∧ atP t1 p1 = some u1 ∧ ixD (enc u1) (DV.int 0) s fun x st2 => eqD x (DV.str (Str.ofString "look")) st2 (Rt Q)) := by
    intro e
    by_cases h : cpl p q = min p.length q.length
    · rw [if_pos (by omega)]
      have : apartB t p q = false := by unfold apartB; rw [if_pos h]
      rw [← this]; exact Rt.of k
    · rw [if_neg (by omega)]
      obtain ⟨v, hv⟩ := atP_take hu n
      refine ⟨t, p.take n, v, by rw [cut_to_ints]; rfl, ok, hv, ?_⟩
      have : apartB t p q = decide (v.w = .look) := by unfold apartB; rw [if_neg h, ← e, hv]
      rw [enc_w v]
      rw [ixD_ti, atI_0, ixO_s, eqD_ss]
      simp only [str_look]
      rw [← this]; exact Rt.of k
  split
  · rename_i h
    have hlt : n < min p.length q.length := by omega
    obtain ⟨a, ha⟩ : ∃ a, p[n]? = some a := ⟨_, List.getElem?_eq_getElem (by omega)⟩
    obtain ⟨b, hb⟩ : ∃ b, q[n]? = some b := ⟨_, List.getElem?_eq_getElem (by omega)⟩
    erw [atI_intsN ha, atI_intsN hb]
    split
    · rename_i hab
      subst hab
      have hnc : n < cpl p q := by
        refine Nat.lt_of_le_of_ne hn fun e => ?_
        have := cpl_ne p q (by omega)
        rw [← e, ha, hb] at this; exact this rfl
      exact ⟨cpl p q - (n + 1), by omega, n + 1, rfl, by omega, rfl, trivial⟩
    · rename_i hab
      have hnc : n = cpl p q := by
        refine Classical.byContradiction fun e => ?_
        have := cpl_at p q n (by omega)
        rw [ha, hb] at this; exact hab (Option.some.inj this)
      have z := last hnc
      erw [List.length_map, min_int, ex, lookF_body]
      exact z
  · rename_i h
    have hnc : n = cpl p q := by omega
    have z := last hnc
    erw [List.length_map, min_int, ex, lookF_body]
    exact z

--@NDICT Net_is_before self.roads_from(('in', p))
/-- p comes before q -/
def Bef (t : Tm) (o : Pt → List Pt) (p q : Place) : Prop := p ≠ q ∧ apartB t p q = false ∧ Reach o (true, p) (true, q)
theorem look_ahead (rs : List (Pt × Pt)) (x : Pt) : (lookD (dmap ptEnc encPt rs) (ptEnc.key x)).isSome = decide (x ∈ rs.map (·.1)) := by
  rw [lookD_dmap, Option.isSome_map, Bool.eq_iff_iff, assoc_iff, decide_eq_true_eq]
theorem keyT_in (p : Place) : keyT (.tup [.str (Str.ofString "in"), .tup (p.map DV.int)]) = some (ptEnc.key (true, p)) := keyT_pt (true, p)
theorem keyT_in' (p : Place) : keyT (.tup [.str (Str.ofString "in"), encP p]) = some (ptEnc.key (true, p)) := keyT_pt (true, p)
abbrev s_Net_is_before : Stmt := (inClass (topS 7) 3)
abbrev N_Net_is_before : List Str := ["self", "p", "q"]
theorem sc_Net_is_before : FnScope N_Net_is_before ["self", "p", "q"] (defScope s_Net_is_before) := ⟨rfl, rfl, rfl, by decide +kernel, rfl, by decide +kernel, by decide +kernel⟩
def sp_is_beforeM (C : Addr) : DSp := fun ds st Q _ => ∃ x p q t d m es, ds = [.ref x, encP p, encP q] ∧ NetAt C st x t d m es ∧ Ok t ∧ (∃ u, atP t p = some u) ∧ (true, p) ∈ m.map (·.1) ∧ p.length ≤ 1000 ∧ q.length ≤ 1000 ∧ ∀ b : Bool, (b = true ↔ Bef t (outs es) p q) → Q (.bl b) st
theorem met_is_before {C_Net : Addr} (D : DefM K C_Net "is_before" "Net.is_before" s_Net_is_before ["self", "p", "q"]) (kl_Net : Klass K mg "Net" C_Net ["body", "tied"]) (M_Net_are_apart : Met P w K mg base 3 C_Net "are_apart" ["self", "p", "q"] (sp_are_apart C_Net)) (M_Net_roads_from : Met P w K mg base 1 C_Net "roads_from" ["self", "start"] (sp_roads_from C_Net)) :
    Met P w K mg base 4 C_Net "is_before" ["self", "p", "q"] (sp_is_beforeM C_Net) := by
  refine met_ok D sc_Net_is_before (fun f cdv A outer s0 H E hr => (dss_one (ds_ret (de_and (de_cmp (op_neU hr.units) dop_ne (de_var 1) (de_var 2) (nomark _)) (de_and (de_not (de_m M_Net_are_apart kl_Net hr (passes_call (takes_of rfl rfl rfl rfl) (fun _ _ _ _ h => h)) (de_var 0) (da_cons (de_var 1) (da_cons (de_var 2) da_nil)))) (de_one (de_cmp (op_nin (units65 hr)) (dop_nin false) (de_tup (da_cons de_str (da_cons (de_var 2) da_nil))) (de_m M_Net_roads_from kl_Net hr (passes_call (takes_of rfl rfl rfl rfl) (fun _ _ _ _ h => h)) (de_var 0) (da_cons (de_tup (da_cons de_str (da_cons (de_var 1) da_nil))) da_nil)) rfl))))))) ?_
  rintro _ st Q W ⟨x, p, q, t, d, m, es, rfl, NT, ok, hu, hk, hp, hq, k⟩
  refine ⟨rfl, ?_⟩
  have no : ¬ Bef t (outs es) p q → ∀ st', Sub st st' → Rt Q (.bl false) st' := fun h st' s => ⟨st, s, k false (by simp [h])⟩
  erw [encP]
  refine ⟨_, eqIs_pl p q, ?_⟩
  by_cases hpq : p = q
  · erw [hpq, decide_true, Bool.not_true]
    exact no (fun z => z.1 hpq) _ (Sub.refl _)
  · erw [hpq, decide_false, Bool.not_false, NT.ins]
    refine ⟨rfl, x, p, q, t, d, rfl, NT.ins, ok, hu, hp, hq, ?_⟩
    cases ha : apartB t p q with
    | true => erw [Bool.not_true]
              exact no (fun z => by have z1 := z.2.1; rw [ha] at z1; cases z1) _ (Sub.refl _)
    | false =>
      erw [Bool.not_false, NT.ins]
      refine ⟨small (by decide), rfl, small (by decide), x, (true, p), t, d, m, es, rfl, NT, hk, fun a rs h1 A hcl hl => ?_⟩
      erw [keyT_in, look_ahead, Bool.false_xor]
      refine ⟨st, Sub.new h1, k _ ?_⟩
      rw [decide_eq_true_eq, A.mem_iff hcl]
      exact ⟨fun z => ⟨hpq, ha, z⟩, fun z => z.2.2⟩
/-! asked of a book -/
structure NetMade (C : Addr) (st : Sto) (c : Int) (t : Tm) (x : Addr) (st' : Sto) (d : Addr) (m : List (Pt × Addr)) : Prop where
  nt : NetAt C st' x t d m (edgesAll t)
  sub : Sub st st'
  ks : ∀ p ∈ placesIn t [], ∀ b, (b, p) ∈ m.map (·.1)
  kp : ∀ k ∈ m.map (·.1), k.2 ∈ placesIn t []
theorem edges_cl {c : Int} {t : Tm} (bk : Bk c t) {e : Pt × Pt} (h : e ∈ edgesAll t) : e.2.2 ∈ placesIn t [] := (edgesL_in bk ((edgesAt_mem bk.made e).mp h)).2
theorem edges_len {c : Int} {t : Tm} (bk : Bk c t) : (edgesAll t).length ≤ 3000 := by
  have h2 := flat_len (edgesAt t) 15 (placesIn t []) fun q _ => edgesAt_len bk.made q
  rw [placesIn_length] at h2
  have h3 := bk.size
  have h4 : (edgesAll t).length ≤ 15 * size t := h2
  omega
theorem net_made {C : Addr} {st : Sto} {c : Int} {t : Tm} (bk : Bk c t) {x d : Addr} {m : List (Pt × Addr)} {s0 st' : Sto} (hx : st x = none) (T : Tied s0 st' d m (edgesAll t)) (hk : ∀ p ∈ placesIn t [], ∀ b, (b, p) ∈ m.map (·.1)) (hin : ∀ k ∈ m.map (·.1), k.2 ∈ placesIn t [])
    (ex : s0 x = some (.ins C [("body", enc t), ("tied", .ref d)])) (kp : ∀ e o, put st x (.ins C []) e = some o → e ≠ x → s0 e = some o) : NetMade C st c t x st' d m := by
  have hl : m.length ≤ 3000 := by
    have h1 := nodup_len T.ka (ys := (placesIn t []).flatMap fun p => [((true, p) : Pt), (false, p)]) fun y hy => by
      rw [List.mem_flatMap]
      refine ⟨y.2, hin y hy, ?_⟩
      obtain ⟨b, p⟩ := y
      cases b <;> simp
    rw [List.length_map] at h1
    have h2 := flat_len (fun p : Place => [((true, p) : Pt), (false, p)]) 2 (placesIn t []) fun q _ => by simp
    rw [placesIn_length] at h2
    have h3 := bk.size
    omega
  refine ⟨⟨T.keep _ _ ex, T.rd, fun e he => hk _ (edges_cl bk he) _, hl, edges_len bk⟩, fun e o he => ?_, hk, hin⟩
  have n : e ≠ x := ne_some he hx
  exact T.keep e o (kp e o (by rw [put_ne n]; exact he) n)
theorem NetAt.but {C : Addr} {st st' : Sto} {x : Addr} {t : Tm} {d : Addr} {m : List (Pt × Addr)} {es : List (Pt × Pt)} {x0 : Addr} (N : NetAt C st x t d m es) (k : ∀ e o, st e = some o → e ≠ x0 → st' e = some o) (hx : x ≠ x0) (hd : d ≠ x0) (hl : lstAt st x0 = none) : NetAt C st' x t d m es := by
  refine ⟨k _ _ N.ins hx, ⟨?_, fun y hy => ?_⟩, N.cl, N.ml, N.el⟩
  · have h1 := N.td.dic
    obtain ⟨o, ho⟩ := dicAt_some h1
    unfold dicAt at h1 ⊢
    rw [k _ _ ho hd]
    rw [ho] at h1; exact h1
  · have h1 := N.td.at' y hy
    exact lstAt_keep h1 fun o ho => k _ _ ho (by rintro h2; rw [h2, hl] at h1; cases h1)
theorem bef_congr {c : Int} {t : Tm} (m : Made c t) (p q : Place) : Bef t (outs (edgesAll t)) p q ↔ Bef t (outs (edgesAllL t)) p q := by
  unfold Bef
  have h : ∀ x y : Pt, Reach (outs (edgesAll t)) x y ↔ Reach (outs (edgesAllL t)) x y := fun x y => ⟨Reach.congr fun a b hb => by rw [outs_mem] at hb ⊢; exact (edgesAt_mem m _).mp hb, Reach.congr fun a b hb => by rw [outs_mem] at hb ⊢; exact (edgesAt_mem m _).mpr hb⟩
  rw [h]
theorem pl_len {c : Int} {t : Tm} (bk : Bk c t) {p : Place} (h : p ∈ placesIn t []) : (∃ u, atP t p = some u) ∧ p.length ≤ 1000 := by
  obtain ⟨u, hu⟩ := mem_places0.mp h
  have := (atP_all hu).2.2.1
  have := bk.high
  exact ⟨⟨u, hu⟩, by omega⟩

abbrev s__law_deeds : Stmt := (topS 22)
abbrev N__law_deeds : List Str := ["body", "found", "place"]
theorem sc__law_deeds : FnScope N__law_deeds ["body"] (defScope s__law_deeds) := ⟨rfl, rfl, rfl, by decide +kernel, rfl, by decide +kernel, by decide +kernel⟩
def sp__law_deeds : DSp := fun ds st Q _ => ∃ t, ds = [enc t] ∧ Ok t ∧ high t ≤ 13 ∧ size t ≤ 60 ∧ ∀ a, st a = none → Q (.ref a) (put st a (.lst ((deedsOf t).map encP)))
theorem cal__law_deeds (D : Def K mg "_law_deeds" s__law_deeds ["body"]) (C__law_places : Cal P w K mg base 14 "_law_places" ["term", "place"] (sp__law_places 13)) (C__law_at : Cal P w K mg base 2 "_law_at" ["body", "place"] sp__law_at) : Cal P w K mg base 15 "_law_deeds" ["body"] sp__law_deeds := by
  refine cal_ok D sc__law_deeds (fun f cdv A outer s0 H E hr => (dss_cons (ds_set 1 sc__law_deeds.nd (de_lst da_nil))
      (dss_cons (ds_for (passes_of rfl) rfl (di_seq (de_c C__law_places hr (passes_call (takes_of rfl rfl rfl rfl) (fun _ _ _ _ h => h)) (da_cons (de_var 0) (da_cons (de_tup da_nil) da_nil)))) (dg_name 2 sc__law_deeds.nd) (dss_one (ds_if (dt_cmp (op_inU (units65 hr)) dop_in (de_ix (de_c C__law_at hr (passes_call (takes_of rfl rfl rfl rfl) (fun _ _ _ _ h => h)) (da_cons (de_var 0) (da_cons (de_var 2) da_nil))) de_int (fun _ _ => rfl)) (de_tup (da_cons de_str (da_cons de_str (da_cons de_str (da_cons de_str da_nil))))) rfl) (dss_one (ds_expr (de_lm PySem.F.slot_list_append PySem.F.type_list_append mt_append dm_append (de_var 1) (da_cons (de_var 2) da_nil)))) dss_nil)))
      (dss_one (ds_ret (de_var 1)))))) ?_
  rintro _ st Q W ⟨t, rfl, ok, hh, hs, q⟩
  refine ⟨rfl, ?_⟩
  erw [True.intro]
  refine ⟨small (by decide), fun f hf => ⟨small (by decide), ?_⟩⟩
  refine ⟨t, [], rfl, ok, hh, by simp; omega, by omega, fun a ha => ?_⟩
  have nfa : f ≠ a := ne_some put_same ha
  erw [True.intro]
  rw [lockS_one put_same, put_put]
  refine forL_by (fun rest ρ st1 => ∃ (r acc : List Place) (x : Option DV), rest = r.map encP ∧ ρ = [some (enc t), some (.ref f), x] ∧ (∀ p ∈ r, p ∈ placesIn t []) ∧ st1 f = some (.lst (acc.map encP)) ∧ acc ++ r.filter (isDeed t) = deedsOf t ∧ acc.length + r.length ≤ 60 ∧ ∀ e o, st e = some o → st1 e = some o)
    ?_ ?_ _ _ _ ⟨placesIn t [], [], none, rfl, rfl, fun _ h => h, by rw [put_ne nfa, put_same]; rfl, rfl, by rw [placesIn_length]; simpa using hs, fun e o he => ?_⟩
  · rintro d r ρ st1 ⟨r, acc, x, e, rfl, hm, ef, ea, hl, kp⟩ ih
    cases r with
    | nil => cases e
    | cons p r =>
      rw [List.map_cons] at e
      cases e
      obtain ⟨u, hu⟩ := mem_places0.mp (hm p (by simp))
      erw [True.intro]
      refine ⟨t, p, u, rfl, ok, hu, ?_⟩
      rw [enc_w u]
      erw [True.intro]
      refine ⟨small (by decide), ?_⟩
      erw [flat_s, flats_4, in_deeds]
      rw [List.filter_cons, isDeed_at hu] at ea
      rw [List.length_cons] at hl
      split
      · rename_i z
        simp at z
        rw [if_pos z] at ea
        erw [ef]
        refine ⟨smallL (by simp; omega), ih _ _ ⟨r, acc ++ [p], _, rfl, rfl, fun p h => hm p (by simp [h]), by rw [put_same]; simp, by simpa using ea, by simp; omega, fun e o he => ?_⟩⟩
        rw [put_ne (ne_some he hf)]; exact kp e o he
      · rename_i z
        simp at z
        rw [if_neg (by simp [z])] at ea
        erw [True.intro]
        exact ih _ _ ⟨r, acc, _, rfl, rfl, fun p h => hm p (by simp [h]), ef, ea, by omega, kp⟩
  · rintro ρ st1 ⟨r, acc, x, e, rfl, hm, ef, ea, hl, kp⟩
    cases r with
    | cons k r => cases e
    | nil =>
      rw [List.filter_nil, List.append_nil] at ea
      subst ea
      erw [True.intro]
      rw [unlockS_one put_same]
      refine ⟨_, fun e o he => ?_, q f hf⟩
      by_cases hea : e = f
      · subst hea; rw [put_same] at he; cases he; rw [put_ne nfa]; exact ef
      · rw [put_ne hea] at he
        have : e ≠ a := by rintro rfl; rw [put_ne (Ne.symm nfa)] at ha; rw [ha] at he; cases he
        rw [put_ne this]; exact kp e o he
  · have n1 : e ≠ f := ne_some he hf
    have n2 : e ≠ a := by rintro rfl; rw [put_ne n1] at ha; rw [ha] at he; cases he
    rw [put_ne n2, put_ne n1]; exact he

abbrev s_is_before : Stmt := (topS 8)
abbrev N_is_before : List Str := ["book", "p", "q"]
theorem sc_is_before : FnScope N_is_before ["book", "p", "q"] (defScope s_is_before) := ⟨rfl, rfl, rfl, by decide +kernel, rfl, by decide +kernel, by decide +kernel⟩
def sp_is_before : DSp := fun ds st Q _ => ∃ c t p q, ds = [encB c t, encP p, encP q] ∧ Bk c t ∧ p ∈ placesIn t [] ∧ q ∈ placesIn t [] ∧ ∀ b : Bool, (b = true ↔ Bef t (outs (edgesAllL t)) p q) → Q (.bl b) st
theorem cal_is_before {C_Net : Addr} (D : Def K mg "is_before" s_is_before ["book", "p", "q"]) (kl_Net : Klass K mg "Net" C_Net ["body", "tied"]) (I_Net : Ini P w K mg base 16 C_Net ["self", "book"] (sp_Net C_Net)) (M_Net_is_before : Met P w K mg base 4 C_Net "is_before" ["self", "p", "q"] (sp_is_beforeM C_Net)) : Cal P w K mg base 18 "is_before" ["book", "p", "q"] sp_is_before := by
  refine cal_ok D sc_is_before (fun f cdv A outer s0 H E hr => (dss_one (ds_ret (de_m M_Net_is_before kl_Net hr (passes_call (takes_of rfl rfl rfl rfl) (fun _ _ _ _ h => h)) (de_make I_Net kl_Net hr (passes_call (takes_of rfl rfl rfl rfl) (fun _ _ _ _ h => h)) (da_cons (de_var 0) da_nil)) (da_cons (de_var 1) (da_cons (de_var 2) da_nil)))))) ?_
  rintro _ st Q W ⟨c, t, p, q, rfl, bk, hp, hq, k⟩
  refine ⟨rfl, ?_⟩
  erw [True.intro]
  intro x hx
  refine ⟨x, c, t, rfl, bk, put_same, fun d m s0 st' T hk hin ex kp => ⟨rfl, ?_⟩⟩
  have NM := net_made bk hx T hk hin ex kp
  erw [NM.nt.ins]
  refine ⟨rfl, x, p, q, t, d, m, edgesAll t, rfl, NM.nt, bk.made.ok, (pl_len bk hp).1, hk p hp true, (pl_len bk hp).2, (pl_len bk hq).2, fun b hb => ⟨st, NM.sub, k b (hb.trans (bef_congr bk.made p q))⟩⟩
abbrev s_are_apart : Stmt := (topS 9)
abbrev N_are_apart : List Str := ["book", "p", "q"]
theorem sc_are_apart : FnScope N_are_apart ["book", "p", "q"] (defScope s_are_apart) := ⟨rfl, rfl, rfl, by decide +kernel, rfl, by decide +kernel, by decide +kernel⟩
def sp_are_apartB : DSp := fun ds st Q _ => ∃ c t p q, ds = [encB c t, encP p, encP q] ∧ Bk c t ∧ p ∈ placesIn t [] ∧ q ∈ placesIn t [] ∧ Q (.bl (apartB t p q)) st
theorem cal_are_apart {C_Net : Addr} (D : Def K mg "are_apart" s_are_apart ["book", "p", "q"]) (kl_Net : Klass K mg "Net" C_Net ["body", "tied"]) (I_Net : Ini P w K mg base 16 C_Net ["self", "book"] (sp_Net C_Net)) (M_Net_are_apart : Met P w K mg base 3 C_Net "are_apart" ["self", "p", "q"] (sp_are_apart C_Net)) : Cal P w K mg base 18 "are_apart" ["book", "p", "q"] sp_are_apartB := by
  refine cal_ok D sc_are_apart (fun f cdv A outer s0 H E hr => (dss_one (ds_ret (de_m M_Net_are_apart kl_Net hr (passes_call (takes_of rfl rfl rfl rfl) (fun _ _ _ _ h => h)) (de_make I_Net kl_Net hr (passes_call (takes_of rfl rfl rfl rfl) (fun _ _ _ _ h => h)) (da_cons (de_var 0) da_nil)) (da_cons (de_var 1) (da_cons (de_var 2) da_nil)))))) ?_
  rintro _ st Q W ⟨c, t, p, q, rfl, bk, hp, hq, k⟩
  refine ⟨rfl, ?_⟩
  erw [True.intro]
  intro x hx
  refine ⟨x, c, t, rfl, bk, put_same, fun d m s0 st' T hk hin ex kp => ⟨rfl, ?_⟩⟩
  have NM := net_made bk hx T hk hin ex kp
  erw [NM.nt.ins]
  exact ⟨rfl, x, p, q, t, d, rfl, NM.nt.ins, bk.made.ok, (pl_len bk hp).1, (pl_len bk hp).2, (pl_len bk hq).2, st, NM.sub, k⟩

theorem lentPl_uniq {c : Int} {t : Tm} (bk : Bk c t) {h : Int} {q : Place} (hq : (h, q) ∈ lentM t) : lentPl t h = q := by
  have hm : h ∈ (lentM t).map (·.1) := List.mem_map.mpr ⟨_, hq, rfl⟩
  obtain ⟨q', h1, h2⟩ := lent_look (lentM t) h hm
  have e : lentPl t h = q' := by unfold lentPl; rw [h2]; simp [encP, intsOf_map]
  have nd : ((lentM t).map (·.1)).Nodup := by rw [lentM_keys bk]; exact bk.lent
  have := map_inj_mem (·.1) nd _ h1 _ hq rfl
  rw [e]; exact congrArg Prod.snd this
theorem lnOk {c : Int} {t : Tm} (bk : Bk c t) : LnOk t (lentPl t) := fun p u h hu hw hh => by
  have hmem := wait_lent bk hu hw hh
  refine ⟨(lentPl_of bk.made hmem).2, ?_⟩
  rcases waits_left t [] bk.made.ok bk.waits p u hu hw h hh with z | ⟨r, i, j, q, v, e1, e2, e3, e4, e5⟩
  · cases z
  · obtain ⟨x, y, rfl⟩ := lend_shape ((atP_all e3).2.1 c bk.made) e4
    have hx : h = x := by simpa [Tm.ns] using e5
    subst hx
    have hin : (h, kid (kid r i) 0) ∈ lentM t := by
      refine List.mem_filterMap.mpr ⟨kid r i, mem_places0.mpr ⟨_, e3⟩, ?_⟩
      unfold lendAt; rw [e3]; rfl
    rw [lentPl_uniq bk hin, e1]
    unfold kid
    rw [List.append_assoc]
    exact postLt_left r (by omega) _ _
abbrev Lk := List (Place × Int)
def lkF (l : Lk) (p : Place) : Option Int := assoc l p
def ThrL (t : Tm) (l : Lk) (p : Place) : Bool := Thr t (lentPl t) (lkF l) p
def opnL (t : Tm) (lk : Lk) (u : Tm) (p : Place) : List Place := opn (ThrL t lk) (lkF lk) u p
/-- looks went to parts -/
def LkOk (t : Tm) (lk : Lk) : Prop := ∀ x ∈ lk, ∀ u, atP t x.1 = some u → u.w = .look → x.2 = 0 ∨ x.2 = 1
theorem in_sac (w : Wd) : inV (.str w.str) [.str "set", .str "add", .str "copy"] = (w.leaf && !decide (w = .wait)) := by cases w <;> decide +kernel
theorem flats_3 (x y z : Str) : flatsD [.str x, .str y, .str z] = some [.str x, .str y, .str z] := rfl
theorem lw_key (p : Place) : keyT (encP p) = some (plEnc.key p) := plEnc.isT p
theorem lw_key' (p : Place) : keyT (.tup (p.map DV.int)) = some (plEnc.key p) := plEnc.isT p
theorem lw_kid {t u : Tm} {p : Place} (hu : atP t p = some u) {k : Nat} (hk : k < u.ps.length) : kid p k ∈ placesIn t [] := by
  obtain ⟨v, hv⟩ : ∃ v, u.ps[k]? = some v := ⟨u.ps[k], List.getElem?_eq_getElem hk⟩
  exact mem_places0.mpr ⟨v, kid_at hu hv⟩
theorem wait_shape {c : Int} {v : Tm} (m : Made c v) (h : v.w = .wait) : ∃ x, v = .mk .wait [x] [] := by
  obtain ⟨w, ns, ps⟩ := v
  cases (show w = .wait from h)
  obtain ⟨h1, h2, _⟩ := m
  obtain ⟨x, rfl⟩ := List.length_eq_one_iff.mp (numsOk_len h1)
  have : ps.length = 0 := by simpa [partsN] using h2
  cases List.length_eq_zero_iff.mp this
  exact ⟨x, rfl⟩
theorem lw_lookk {c : Int} {t u : Tm} {lk : Lk} {p : Place} {k : Int} (bk : Bk c t) (hlk : LkOk t lk) (hu : atP t p = some u) (hw : u.w = .look) (h : lkF lk p = some k) : p ++ [k] ∈ placesIn t [] := by
  have hp := ((atP_all hu).2.1 c bk.made)
  have h2 : u.ps.length = 2 := by
    obtain ⟨w, ns, ps⟩ := u
    cases (show w = .look from hw)
    simpa [partsN, Tm.ps] using hp.2.1
  have hk : ∀ j : Nat, k = (j : Int) → j < 2 → p ++ [k] ∈ placesIn t [] := fun j e hj => by subst e; exact lw_kid hu (by omega)
  rcases hlk (p, k) (assoc_mem h) u hu hw with e | e
  · exact hk 0 e (by decide)
  · exact hk 1 e (by decide)
theorem putKD_has {kvs : List (Key × DV)} {k : Key} {d d' : DV} (h : lookK kvs k = some d) : (putKD kvs k d').length = kvs.length := by
  unfold putKD
  have : (kvs.any fun kv => decide (kv.1 = k)) = true := by
    unfold lookK at h
    obtain ⟨x, h1, _⟩ := Option.map_eq_some_iff.mp h
    have h2 := List.find?_some h1
    exact List.any_eq_true.mpr ⟨x, List.mem_of_find?_eq_some h1, h2⟩
  rw [if_pos this, List.length_map]
theorem lk_cons (k : Key) (d : DV) (r : List (Key × DV)) (k' : Key) : lookK ((k, d) :: r) k' = if k = k' then some d else lookK r k' := by
  unfold lookK
  rw [List.find?_cons]
  by_cases h : k = k'
  · rw [if_pos h]; show Option.map _ (match decide (k = k') with | true => _ | false => _) = _; rw [decide_eq_true h]; rfl
  · rw [if_neg h]; show Option.map _ (match decide (k = k') with | true => _ | false => _) = _; rw [decide_eq_false h]

/-! what a deed does, and weaves -/
abbrev Dn := Place × List Int × Option Int
def encW : Option Int → DV | none => .non | some v => .int v
def encDn (x : Dn) : DV := .tup [encP x.1, .tup (x.2.1.map DV.int), encW x.2.2]
def cellAt (cs : List Int) (x : Int) : Int := cs.getD x.toNat 0
structure Eff where
  reads : List Int
  wrote : Option Int
  k : Int
  cs : List Int
def eff (u : Tm) (cs : List Int) : Eff := match u with
  | .mk .look [x] _ => ⟨[cellAt cs x], none, if cellAt cs x = 0 then 1 else 0, cs⟩
  | .mk .set [x, v] _ => ⟨[], some v, 0, cs.set x.toNat v⟩
  | .mk .copy [x, y] _ => ⟨[cellAt cs y], some (cellAt cs y), 0, cs.set x.toNat (cellAt cs y)⟩
  | .mk .add [x, y] _ => ⟨[cellAt cs x, cellAt cs y], some ((cellAt cs x + cellAt cs y) % 10), 0, cs.set x.toNat ((cellAt cs x + cellAt cs y) % 10)⟩
  | _ => ⟨[], none, 0, cs⟩
structure WSt where
  lk : Lk
  cs : List Int
  dn : List Dn
def stepW (t : Tm) (s : WSt) (p : Place) : WSt := match atP t p with
  | none => s
  | some u => ⟨s.lk ++ [(p, (eff u s.cs).k)], (eff u s.cs).cs, s.dn ++ [(p, (eff u s.cs).reads, (eff u s.cs).wrote)]⟩
/-- as weaves go -/
structure WOk (c : Int) (t : Tm) (s : WSt) : Prop where
  nd : (s.lk.map (·.1)).Nodup
  ins : ∀ x ∈ s.lk, isDeed t x.1 = true
  lko : LkOk t s.lk
  cl : (s.cs.length : Int) = c
  dn : s.dn.length = s.lk.length
def pickAt (xs : List Place) (k : Int) : Place := xs.getD (k % (xs.length : Int)).toNat []
def wv (t : Tm) : Nat → List Int → WSt → WSt
  | 0, _, s => s
  | n + 1, ps, s => if opnL t s.lk t [] = [] then s else wv t n ps.tail (stepW t s (pickAt (opnL t s.lk t []) (ps.headD 0)))
def wvS (t : Tm) (ps : List Int) (s : WSt) : WSt := wv t (60 - s.lk.length) ps s
theorem eff_k (u : Tm) (cs : List Int) : (eff u cs).k = 0 ∨ (eff u cs).k = 1 := by
  unfold eff; split <;> simp
  omega
theorem eff_len (u : Tm) (cs : List Int) : (eff u cs).cs.length = cs.length := by
  unfold eff; split <;> simp
theorem deed_places {t : Tm} {p : Place} (h : isDeed t p = true) : ∃ u, atP t p = some u ∧ u.w.deed = true := by
  unfold isDeed at h
  cases z : atP t p with
  | none => rw [z] at h; cases h
  | some u => rw [z] at h; exact ⟨u, rfl, h⟩
theorem stepW_ok {c : Int} {t : Tm} {s : WSt} (o : WOk c t s) {p : Place} (hd : isDeed t p = true) (hn : lkF s.lk p = none) : WOk c t (stepW t s p) := by
  obtain ⟨u, hu, hw⟩ := deed_places hd
  unfold stepW; rw [hu]
  refine ⟨?_, ?_, ?_, ?_, ?_⟩
  · show ((s.lk ++ [_]).map _).Nodup
    rw [List.map_append, List.nodup_append]
    refine ⟨o.nd, by simp, fun a ha b hb e => ?_⟩
    simp at hb; rw [e, hb] at ha
    exact assoc_none hn ha
  · intro x hx
    rcases List.mem_append.mp hx with h | h
    · exact o.ins x h
    · simp at h; rw [h]; exact hd
  · intro x hx v hv hw
    rcases List.mem_append.mp hx with h | h
    · exact o.lko x h v hv hw
    · simp at h; rw [h]; exact eff_k _ _
  · show ((eff u s.cs).cs.length : Int) = c
    rw [eff_len]; exact o.cl
  · show (s.dn ++ [_]).length = (s.lk ++ [_]).length
    simp [o.dn]
theorem WOk.len {c : Int} {t : Tm} {s : WSt} (o : WOk c t s) : s.lk.length ≤ size t := by
  have := nodup_len o.nd (ys := placesIn t []) fun x hx => by
    obtain ⟨y, hy, rfl⟩ := List.mem_map.mp hx
    obtain ⟨u, hu, _⟩ := deed_places (o.ins y hy)
    exact mem_places0.mpr ⟨u, hu⟩
  rw [List.length_map, placesIn_length] at this; exact this
theorem opnL_deed {t : Tm} {lk : Lk} {p : Place} (h : p ∈ opnL t lk t []) : isDeed t p = true ∧ lkF lk p = none := by
  obtain ⟨q, v, e1, e2, e3, e4⟩ := opn_mem t [] p h
  rw [List.nil_append] at e1; subst e1
  exact ⟨by unfold isDeed; rw [e2]; exact e3, e4⟩
theorem pickAt_mem {xs : List Place} (h : xs ≠ []) (k : Int) : pickAt xs k ∈ xs := by
  unfold pickAt
  have hl : 0 < xs.length := List.length_pos_iff.mpr h
  have h1 := Int.emod_nonneg k (b := (xs.length : Int)) (by omega)
  have h2 := Int.emod_lt_of_pos k (b := (xs.length : Int)) (by omega)
  rw [List.getD_eq_getElem?_getD, List.getElem?_eq_getElem (by omega)]
  exact List.getElem_mem _
theorem stepW_len {t : Tm} {s : WSt} {p : Place} (hd : isDeed t p = true) : (stepW t s p).lk.length = s.lk.length + 1 := by
  obtain ⟨u, hu, _⟩ := deed_places hd
  unfold stepW; rw [hu]; simp
theorem wvS_nil {t : Tm} {ps : List Int} {s : WSt} (h : opnL t s.lk t [] = []) : wvS t ps s = s := by
  unfold wvS
  cases 60 - s.lk.length with
  | zero => rfl
  | succ n => rw [wv, if_pos h]
theorem wvS_cons {c : Int} {t : Tm} {ps : List Int} {s : WSt} (bk : Bk c t) (o : WOk c t s) (h : opnL t s.lk t [] ≠ []) : wvS t ps s = wvS t ps.tail (stepW t s (pickAt (opnL t s.lk t []) (ps.headD 0))) := by
  obtain ⟨hd, hn⟩ := opnL_deed (pickAt_mem h (ps.headD 0))
  have o' := stepW_ok o hd hn
  have h1 := o'.len
  have h2 := stepW_len (s := s) hd
  have := bk.size
  unfold wvS
  obtain ⟨n, hn⟩ : ∃ n, 60 - s.lk.length = n + 1 := ⟨60 - s.lk.length - 1, by omega⟩
  rw [hn, wv, if_neg h, show 60 - (stepW t s (pickAt (opnL t s.lk t []) (ps.headD 0))).lk.length = n by omega]

--@DICT _law_is_through now;now['lent']
--@NDICT _law_is_through now['looked']
--@DICT _law_through now
--@NDICT _law_through now['memo']
/-- what the law keeps: what was looked at, what is told of it, the body -/
structure NowR (st : Sto) (a : Addr) (t : Tm) (lk : Lk) (l m ln : Addr) : Prop where
  ex : ∃ kvs, st a = some (.dck kvs) ∧ lookK kvs (.inr "looked") = some (.ref l) ∧ lookK kvs (.inr "memo") = some (.ref m) ∧ lookK kvs (.inr "body") = some (enc t) ∧ lookK kvs (.inr "lent") = some (.ref ln)
  lok : st l = some (.dic (dmap plEnc DV.int lk))
  len : st ln = some (.dck (lentD (lentM t)))
  ne : l ≠ m
theorem NowR.sub {st s : Sto} {a : Addr} {t : Tm} {lk : Lk} {l m ln : Addr} (N : NowR st a t lk l m ln) (h : Sub st s) : NowR s a t lk l m ln := by
  obtain ⟨kv, h1, h2⟩ := N.ex
  exact ⟨⟨kv, h _ _ h1, h2⟩, h _ _ N.lok, h _ _ N.len, N.ne⟩
def MemoOk (t : Tm) (lk : Lk) (mm : List (Place × Bool)) : Prop := (mm.map (·.1)).Nodup ∧ ∀ x ∈ mm, x.1 ∈ placesIn t [] ∧ x.2 = ThrL t lk x.1
theorem NowR.put {st : Sto} {a : Addr} {t : Tm} {lk : Lk} {l m ln : Addr} (N : NowR st a t lk l m ln) {kvs : List (DV × DV)} (hm : ∃ kvs', st m = some (.dic kvs')) : NowR (put st m (.dic kvs)) a t lk l m ln := by
  obtain ⟨kv, h1, h2⟩ := N.ex
  obtain ⟨kvs', hm⟩ := hm
  have na : a ≠ m := by rintro rfl; rw [h1] at hm; cases hm
  have nl : ln ≠ m := by rintro rfl; rw [N.len] at hm; cases hm
  exact ⟨⟨kv, by rw [put_ne na]; exact h1, h2⟩, by rw [put_ne N.ne]; exact N.lok, by rw [put_ne nl]; exact N.len, N.ne⟩
theorem memo_len {t : Tm} {lk : Lk} {mm : List (Place × Bool)} (h : MemoOk t lk mm) : mm.length ≤ size t := by
  have := nodup_len h.1 fun x hx => by obtain ⟨y, hy, rfl⟩ := List.mem_map.mp hx; exact (h.2 y hy).1
  rw [List.length_map, placesIn_length] at this; exact this
theorem look_lk (lk : Lk) (p : Place) : (lookD (dmap plEnc DV.int lk) (plEnc.key p)).isSome = (lkF lk p).isSome := by rw [lookD_dmap, Option.isSome_map]; rfl
abbrev s__law_is_through : Stmt := (topS 24)
abbrev N__law_is_through : List Str := ["now", "term", "place", "k"]
theorem sc__law_is_through : FnScope N__law_is_through ["now", "term", "place"] (defScope s__law_is_through) := ⟨rfl, rfl, rfl, by decide +kernel, rfl, by decide +kernel, by decide +kernel⟩
abbrev s__law_through : Stmt := (topS 25)
abbrev N__law_through : List Str := ["now", "place"]
theorem sc__law_through : FnScope N__law_through ["now", "place"] (defScope s__law_through) := ⟨rfl, rfl, rfl, by decide +kernel, rfl, by decide +kernel, by decide +kernel⟩
def sp_thr (n : Nat) : DSp := fun ds st Q _ => ∃ c t a p lk l m ln mm, ds = [.ref a, encP p] ∧ Bk c t ∧ NowR st a t lk l m ln ∧ LkOk t lk ∧ st m = some (.dic (dmap plEnc DV.bl mm)) ∧ MemoOk t lk mm ∧ p ∈ placesIn t [] ∧ rank t p < n ∧
  ∀ mm', MemoOk t lk mm' → Q (.bl (ThrL t lk p)) (put st m (.dic (dmap plEnc DV.bl mm')))
def sp_isthr (n : Nat) : DSp := fun ds st Q _ => ∃ c t a p u lk l m ln mm, ds = [.ref a, enc u, encP p] ∧ Bk c t ∧ NowR st a t lk l m ln ∧ LkOk t lk ∧ st m = some (.dic (dmap plEnc DV.bl mm)) ∧ MemoOk t lk mm ∧ atP t p = some u ∧ rank t p ≤ n ∧
  ∀ mm', MemoOk t lk mm' → Q (.bl (ThrL t lk p)) (put st m (.dic (dmap plEnc DV.bl mm')))
theorem cal__law_is_through {n : Nat} (D : Def K mg "_law_is_through" s__law_is_through ["now", "term", "place"]) (b_all : mg "all" = none) (b_range : mg "range" = none) (b_len : mg "len" = none) (C__law_through : Cal P w K mg base (2 * n + 2) "_law_through" ["now", "place"] (sp_thr n)) : Cal P w K mg base (2 * n + 3) "_law_is_through" ["now", "term", "place"] (sp_isthr n) := by
  refine cal_ok D sc__law_is_through (fun f cdv A outer s0 H E hr => (dss_cons (ds_if (dt_cmp (op_inU (units65 hr)) dop_in (de_ix (de_var 1) de_int (fun _ _ => rfl)) (de_tup (da_cons de_str (da_cons de_str (da_cons de_str da_nil)))) rfl) (dss_one (ds_ret (de_cmp (op_nin (units65 hr)) (dop_nin false) (de_var 2) (de_dget (hu_of hr) (de_var 0) de_str) rfl))) dss_nil)
      (dss_cons (ds_if (dt_cmp (op_eqU hr.units) dop_eq (de_ix (de_var 1) de_int (fun _ _ => rfl)) de_str (nomark _)) (dss_cons (ds_if (dt_cmp (op_nnotin (units65 hr)) (dop_nin true) (de_var 2) (de_dget (hu_of hr) (de_var 0) de_str) rfl) (dss_one (ds_ret de_bl)) dss_nil)
      (dss_one (ds_ret (de_c C__law_through hr (passes_call (takes_of rfl rfl rfl rfl) (fun _ _ _ _ h => h)) (da_cons (de_var 0) (da_cons (de_op op_addU dop_add (de_var 2) (de_tup (da_cons (de_nget (units65 hr) (de_dget (hu_of hr) (de_var 0) de_str) (de_var 2)) da_nil))) da_nil)))))) dss_nil)
      (dss_cons (ds_if (dt_cmp (op_eqU hr.units) dop_eq (de_ix (de_var 1) de_int (fun _ _ => rfl)) de_str (nomark _)) (dss_one (ds_ret (de_c C__law_through hr (passes_call (takes_of rfl rfl rfl rfl) (fun _ _ _ _ h => h)) (da_cons (de_var 0) (da_cons (de_dget (hu_of hr) (de_dget (hu_of hr) (de_var 0) de_str) (de_ix (de_var 1) de_int (fun _ _ => rfl))) da_nil))))) dss_nil)
      (dss_cons (ds_if (dt_cmp (op_eqU hr.units) dop_eq (de_ix (de_var 1) de_int (fun _ _ => rfl)) de_str (nomark _)) (dss_one (ds_ret de_bl)) dss_nil)
      (dss_one (ds_ret (de_b (cr_all rfl) (dc_bools _) b_all (by decide +kernel) (da_cons (de_lc (own := [("k", 3)]) rfl sc__law_is_through.nd (di_range1 b_range (da_cons (de_op op_sub dop_sub (de_b call_len dc_len b_len PySem.boot_len (da_cons (de_var 1) da_nil)) de_int) da_nil)) (blkOk_by (N := N__law_is_through) (own := [("k", 3)]) (sc := defScope s__law_is_through) (by decide +kernel)) (fun _ _ _ _ _ => (dgw_name 3 sc__law_is_through.nd)) (fun _ _ _ _ _ => dts_nil) (fun _ _ _ _ _ => (de_c C__law_through hr passL (da_cons (de_var 0) (da_cons (de_op op_addU dop_add (de_var 2) (de_tup (da_cons (de_var 3) da_nil))) da_nil))))) da_nil))))))))) ?_
  rintro _ st Q W ⟨c, t, a, p, u, lk, l, m, ln, mm, rfl, bk, N, lko, em, mok, hu, hr, q⟩
  refine ⟨rfl, ?_⟩
  have mu := (atP_all hu).2.1 c bk.made
  have hpin : p ∈ placesIn t [] := mem_places0.mpr ⟨u, hu⟩
  have hpl := (pl_len bk hpin).2
  obtain ⟨kvs, ea, k1, k2, k3, k4⟩ := N.ex
  have teq := Thr_eq (lk := lkF lk) (lnOk bk) hu
  have same : Rt Q (.bl (ThrL t lk p)) st := by
    refine ⟨_, ?_, q mm mok⟩
    rw [put_id em]; exact Sub.refl _
  -- asked of another place
  have ask : ∀ {q' : Place}, q' ∈ placesIn t [] → postLt q' p = true → rank t q' < n := fun h1 h2 => Nat.lt_of_lt_of_le (rank_lt h1 h2) hr
  erw [True.intro]
  rw [enc_w u]
  erw [True.intro]
  refine ⟨small (by decide), ?_⟩
  erw [flat_s, flats_3, in_sac, Bool.false_xor]
  by_cases hl : (u.w.leaf && !decide (u.w = Wd.wait)) = true
  · rw [if_pos hl]
    have e : ThrL t lk p = (lkF lk p).isSome := by
      unfold ThrL; rw [teq]; revert hl; cases u.w <;> simp [Wd.leaf]
    erw [ea, k1, dicAt_d N.lok, lw_key, look_lk, Bool.false_xor]
    rw [← e]; exact same
  rw [if_neg hl]
  by_cases h1 : u.w = .look
  · rw [if_pos h1]
    rw [h1] at teq
    erw [ea, k1, dicAt_d N.lok, lw_key, look_lk, Bool.false_xor]
    cases hk : lkF lk p with
    | none =>
      have e : ThrL t lk p = false := by unfold ThrL; rw [teq, hk]
      rw [e] at same
      simpa using same
    | some k =>
      rw [hk] at teq
      have e : ThrL t lk p = ThrL t lk (p ++ [k]) := teq
      have hlo : lookD (dmap plEnc DV.int lk) (plEnc.key p) = some (.int k) := by rw [lookD_dmap]; show Option.map _ (lkF lk p) = _; rw [hk]; rfl
      rw [if_neg (by simp)]
      erw [ea, k1, dicAt_d N.lok, lw_key, hlo, encP]
      have hin := lw_lookk bk lko hu h1 hk
      refine ⟨small (by decide), small (by simp; omega), c, t, a, p ++ [k], lk, l, m, ln, mm, by simp [encP], bk, N, lko, em, mok, hin, ask hin (postLt_kid p k []), fun mm' h' => ?_⟩
      rw [← e]
      exact ⟨_, Sub.refl _, q mm' h'⟩
  rw [if_neg h1]
  by_cases h2 : u.w = .wait
  · rw [if_pos h2]
    obtain ⟨h, rfl⟩ := wait_shape mu h2
    have hlo := (lentPl_of bk.made (wait_lent bk hu h2 (h := h) (by simp [Tm.ns]))).1
    have hok := lnOk bk p _ h hu h2 (by simp [Tm.ns])
    have e : ThrL t lk p = ThrL t lk (lentPl t h) := by
      unfold ThrL; rw [teq]; simp [Tm.w, Tm.ns]
    erw [ea, k4, N.len, hlo, Tm.ns, Tm.ps, encs]
    refine ⟨c, t, a, _, lk, l, m, ln, mm, rfl, bk, N, lko, em, mok, hok.1, ask hok.1 hok.2, fun mm' h' => ?_⟩
    rw [← e]
    exact ⟨_, Sub.refl _, q mm' h'⟩
  rw [if_neg h2]
  by_cases h3 : u.w = .lend
  · rw [if_pos h3]
    have e : ThrL t lk p = true := by unfold ThrL; rw [teq, h3]
    rw [← e]; exact same
  rw [if_neg h3]
  have hn : u.ns = [] := by
    obtain ⟨w, ns, ps⟩ := u
    have := numsOk_len mu.1
    revert this hl h1 h2 h3
    cases w <;> simp [Tm.w, Tm.ns, Wd.leaf, Wd.nums]
  have e : ThrL t lk p = (List.range u.ps.length).all fun k => ThrL t lk (kid p k) := by
    unfold ThrL; rw [teq]; revert hl h1 h2 h3; cases u.w <;> simp [Wd.leaf]
  have h6 : u.ps.length ≤ 6 := by
    obtain ⟨w, ns, ps⟩ := u
    have := mu.2.1
    revert this hl h1 h2 h3
    cases w <;> simp [Tm.w, Tm.ps, Wd.leaf, partsN]
    all_goals omega
  have hL : (encs u.ps).length ≤ 6 := by rw [encs_length]; exact h6
  erw [mLc, hn, List.map_nil, List.nil_append, List.length_cons]
  have hN : (((encs u.ps).length + 1 : Nat) : Int) - 1 = (u.ps.length : Nat) := by rw [encs_length]; omega
  rw [hN, Int.toNat_natCast]
  refine ⟨⟨by omega, by omega⟩, small (by unfold rangeD; rw [List.length_map, List.length_range]; omega), ?_⟩
  refine lcL_by (fun rest acc sx => ∃ (ks js : List Nat) (mx : List (Place × Bool)), rest = ks.map (fun i => DV.int (0 + (i : Nat))) ∧ acc = (js.map fun j => ThrL t lk (kid p j)).map DV.bl ∧ js ++ ks = List.range u.ps.length ∧ MemoOk t lk mx ∧ sx = put st m (.dic (dmap plEnc DV.bl mx))) ?_ ?_ _ _ _ ⟨List.range u.ps.length, [], mm, rfl, rfl, rfl, mok, (put_id em).symm⟩
  · rintro dd rr acc sx ⟨ks, js, mx, e1, rfl, hjk, mox, rfl⟩ ih
    cases ks with
    | nil => cases e1
    | cons k ks =>
      rw [List.map_cons] at e1
      cases e1
      have hk : k < u.ps.length := by
        have : k ∈ List.range u.ps.length := by rw [← hjk]; simp
        simpa using this
      erw [encP]
      have hin := lw_kid hu hk
      refine ⟨small (by decide), small (by simp; omega), c, t, a, kid p k, lk, l, m, ln, mx, by simp [encP, kid], bk, N.put ⟨_, em⟩, lko, put_same, mox, hin, ask hin (postLt_kid p k []), fun mx' h' => ?_⟩
      rw [put_put]
      exact ih _ _ ⟨ks, js ++ [k], mx', rfl, by simp, by rw [← hjk]; simp, h', rfl⟩
  · rintro acc sx ⟨ks, js, mx, e1, rfl, hjk, mox, rfl⟩
    cases ks with
    | cons k ks => cases e1
    | nil =>
      rw [List.append_nil] at hjk
      subst hjk
      intro p0 hp0
      erw [blsOf_map]
      have ea' : ((List.range u.ps.length).map fun j => ThrL t lk (kid p j)).all id = ThrL t lk p := by rw [e, List.all_map]; rfl
      rw [ea']
      exact ⟨_, Sub.new hp0, q mx mox⟩
theorem cal__law_through1 {n : Nat} (D : Def K mg "_law_through" s__law_through ["now", "place"]) (C__law_at : Cal P w K mg base 2 "_law_at" ["body", "place"] sp__law_at) (C__law_is_through : Cal P w K mg base (2 * n + 3) "_law_is_through" ["now", "term", "place"] (sp_isthr n)) : Cal P w K mg base (2 * (n + 1) + 2) "_law_through" ["now", "place"] (sp_thr (n + 1)) := by
  refine cal_ok D sc__law_through (fun f cdv A outer s0 H E hr => (dss_cons (ds_if (dt_cmp (op_nnotin (units65 hr)) (dop_nin true) (de_var 1) (de_dget (hu_of hr) (de_var 0) de_str) rfl) (dss_one (ds_asg (de_c C__law_is_through hr (passes_call (takes_of rfl rfl rfl rfl) (fun _ _ _ _ h => h)) (da_cons (de_var 0) (da_cons (de_c C__law_at hr (passes_call (takes_of rfl rfl rfl rfl) (fun _ _ _ _ h => h)) (da_cons (de_dget (hu_of hr) (de_var 0) de_str) (da_cons (de_var 1) da_nil))) (da_cons (de_var 1) da_nil)))) (dg_sub (set_nest (units65 hr)) dset_nest (de_dget (hu_of hr) (de_var 0) de_str) (de_var 1)))) dss_nil)
      (dss_one (ds_ret (de_nget (units65 hr) (de_dget (hu_of hr) (de_var 0) de_str) (de_var 1)))))) ?_
  rintro _ st Q W ⟨c, t, a, p, lk, l, m, ln, mm, rfl, bk, N, lko, em, mok, hp, hr, q⟩
  refine ⟨rfl, ?_⟩
  obtain ⟨u, hu⟩ := mem_places0.mp hp
  obtain ⟨kvs, ea, k1, k2, k3, k4⟩ := N.ex
  have hlo : ∀ mx : List (Place × Bool), lookD (dmap plEnc DV.bl mx) (plEnc.key p) = (assoc mx p).map DV.bl := fun mx => lookD_dmap plEnc DV.bl mx p
  erw [ea, k2, dicAt_d em, lw_key, hlo, Option.isSome_map]
  cases z : assoc mm p with
  | some b =>
    rw [if_neg (by simp)]
    erw [ea, k2, dicAt_d em, lw_key, hlo, z, Option.map_some]
    have : b = ThrL t lk p := (mok.2 _ (assoc_mem z)).2
    rw [this]
    refine ⟨_, ?_, q mm mok⟩
    rw [put_id em]; exact Sub.refl _
  | none =>
    rw [if_pos (by simp)]
    erw [ea, k3]
    refine ⟨t, p, u, rfl, bk.made.ok, hu, ?_⟩
    erw [True.intro]
    refine ⟨c, t, a, p, u, lk, l, m, ln, mm, rfl, bk, N, lko, em, mok, hu, by omega, fun mx hx => ?_⟩
    obtain ⟨kvx, ex, _, kx, _⟩ := (N.put (kvs := dmap plEnc DV.bl mx) ⟨_, em⟩).ex
    have hsd := storeD_dmap plEnc DV.bl mx p (ThrL t lk p)
    erw [ex, kx, put_same, lw_key]
    have hsd' : storeD (dmap plEnc DV.bl mx) (plEnc.key p) (encP p) (DV.bl (ThrL t lk p)) = dmap plEnc DV.bl (assocPut mx p (ThrL t lk p)) := hsd
    rw [put_put, hsd']
    have hl := memo_len hx
    refine ⟨small (by unfold dmap; rw [List.length_map]; exact Nat.le_trans hl (by have := bk.size; omega)), ?_⟩
    have mok' : MemoOk t lk (assocPut mx p (ThrL t lk p)) := ⟨assocPut_nodup hx.1, fun y hy => by
      rcases assocPut_mem hy with h | rfl
      · exact hx.2 y h
      · exact ⟨hp, rfl⟩⟩
    obtain ⟨kvy, ey, _, ky, _⟩ := (N.put (kvs := dmap plEnc DV.bl (assocPut mx p (ThrL t lk p))) ⟨_, em⟩).ex
    erw [ey, ky, dicAt_d put_same, lw_key, hlo, assoc_put, if_pos, Option.map_some]
    exact ⟨_, Sub.refl _, q _ mok'⟩
theorem cal__law_through (D : Def K mg "_law_through" s__law_through ["now", "place"]) (D2 : Def K mg "_law_is_through" s__law_is_through ["now", "term", "place"]) (b_all : mg "all" = none) (b_range : mg "range" = none) (b_len : mg "len" = none) (C__law_at : Cal P w K mg base 2 "_law_at" ["body", "place"] sp__law_at) : ∀ n, Cal P w K mg base (2 * n + 2) "_law_through" ["now", "place"] (sp_thr n)
  | 0 => (cal_none D fun ds st Q W ⟨c, t, a, p, lk, l, m, ln, mm, _, _, _, _, _, _, _, h, _⟩ => by omega).mono (Nat.zero_le _)
  | n + 1 => cal__law_through1 D C__law_at (cal__law_is_through D2 b_all b_range b_len (cal__law_through D D2 b_all b_range b_len C__law_at n))
/-- as the others ask it -/
def sp__law_through : DSp := fun ds st Q _ => ∃ c t a p lk l m ln mm, ds = [.ref a, encP p] ∧ Bk c t ∧ NowR st a t lk l m ln ∧ LkOk t lk ∧ st m = some (.dic (dmap plEnc DV.bl mm)) ∧ MemoOk t lk mm ∧ p ∈ placesIn t [] ∧
  ∀ mm', MemoOk t lk mm' → Q (.bl (ThrL t lk p)) (put st m (.dic (dmap plEnc DV.bl mm')))
theorem thr_all (h : ∀ n, Cal P w K mg base (2 * n + 2) "_law_through" ["now", "place"] (sp_thr n)) : Cal P w K mg base 122 "_law_through" ["now", "place"] sp__law_through := by
  refine (h 60).imp fun ds st Q W ⟨c, t, a, p, lk, l, m, ln, mm, h1, bk, h3, h4, h5, h6, h7, h8⟩ => ⟨c, t, a, p, lk, l, m, ln, mm, h1, bk, h3, h4, h5, h6, h7, ?_, h8⟩
  exact Nat.lt_of_lt_of_le (rank_size h7) bk.size

--@DICT _law_open now
--@NDICT _law_open now['looked']
theorem opnPick_at {T : Place → Bool} {lk : Place → Option Int} : ∀ (us : List Tm) (i j : Nat) (p : Place) (v : Tm), us[j]? = some v → opnPick T lk us i ((i + j : Nat) : Int) p = opn T lk v (kid p (i + j))
  | [], i, j, p, v, h => by simp at h
  | u :: r, i, j, p, v, h => by
    rw [opnPick]
    cases j with
    | zero => simp at h; subst h; rw [if_pos (by rfl)]; rfl
    | succ j =>
      simp at h
      rw [if_neg (by omega), show i + (j + 1) = i + 1 + j by omega]
      exact opnPick_at r (i + 1) j p v h

abbrev s__law_open : Stmt := (topS 26)
abbrev N__law_open : List Str := ["now", "place", "term", "found", "k"]
theorem sc__law_open : FnScope N__law_open ["now", "place"] (defScope s__law_open) := ⟨rfl, rfl, rfl, by decide +kernel, rfl, by decide +kernel, by decide +kernel⟩
def sp_open (n : Nat) : DSp := fun ds st Q _ => ∃ c t a p u lk l m ln mm, ds = [.ref a, encP p] ∧ Bk c t ∧ NowR st a t lk l m ln ∧ LkOk t lk ∧ st m = some (.dic (dmap plEnc DV.bl mm)) ∧ MemoOk t lk mm ∧ atP t p = some u ∧ high u ≤ n ∧
  ∀ b mm', st b = none → MemoOk t lk mm' → Q (.ref b) (put (put st m (.dic (dmap plEnc DV.bl mm'))) b (.lst ((opnL t lk u p).map encP)))
theorem cal__law_open1 {n : Nat} (D : Def K mg "_law_open" s__law_open ["now", "place"]) (b_int : mg "int" = none) (b_range : mg "range" = none) (b_len : mg "len" = none) (C__law_at : Cal P w K mg base 2 "_law_at" ["body", "place"] sp__law_at) (C__law_through : Cal P w K mg base 122 "_law_through" ["now", "place"] sp__law_through) (C__law_open : Cal P w K mg base (122 + n) "_law_open" ["now", "place"] (sp_open n)) : Cal P w K mg base (122 + n + 1) "_law_open" ["now", "place"] (sp_open (n + 1)) := by
  refine cal_ok D sc__law_open (fun f cdv A outer s0 H E hr => (dss_cons (ds_set 2 sc__law_open.nd (de_c C__law_at hr (passes_call (takes_of rfl rfl rfl rfl) (fun _ _ _ _ h => h)) (da_cons (de_dget (hu_of hr) (de_var 0) de_str) (da_cons (de_var 1) da_nil))))
      (dss_cons (ds_if (dt_cmp (op_inU (units65 hr)) dop_in (de_ix (de_var 2) de_int (fun _ _ => rfl)) (de_tup (da_cons de_str (da_cons de_str (da_cons de_str da_nil)))) rfl) (dss_one (ds_ret (de_op op_mulU dop_mul (de_lst (da_cons (de_var 1) da_nil)) (de_ty call_int1 dc_int b_int (by decide +kernel) (da_cons (de_cmp (op_nnotin (units65 hr)) (dop_nin true) (de_var 1) (de_dget (hu_of hr) (de_var 0) de_str) rfl) da_nil))))) dss_nil)
      (dss_cons (ds_if (dt_cmp (op_eqU hr.units) dop_eq (de_ix (de_var 2) de_int (fun _ _ => rfl)) de_str (nomark _)) (dss_cons (ds_if (dt_cmp (op_nnotin (units65 hr)) (dop_nin true) (de_var 1) (de_dget (hu_of hr) (de_var 0) de_str) rfl) (dss_one (ds_ret (de_lst (da_cons (de_var 1) da_nil)))) dss_nil)
      (dss_one (ds_ret (de_c C__law_open hr (passes_call (takes_of rfl rfl rfl rfl) (fun _ _ _ _ h => h)) (da_cons (de_var 0) (da_cons (de_op op_addU dop_add (de_var 1) (de_tup (da_cons (de_nget (units65 hr) (de_dget (hu_of hr) (de_var 0) de_str) (de_var 1)) da_nil))) da_nil)))))) dss_nil)
      (dss_cons (ds_if (dt_cmp (op_eqU hr.units) dop_eq (de_ix (de_var 2) de_int (fun _ _ => rfl)) de_str (nomark _)) (dss_one (ds_ret (de_c C__law_open hr (passes_call (takes_of rfl rfl rfl rfl) (fun _ _ _ _ h => h)) (da_cons (de_var 0) (da_cons (de_op op_addU dop_add (de_var 1) (de_tup (da_cons de_int da_nil))) da_nil))))) dss_nil)
      (dss_cons (ds_set 3 sc__law_open.nd (de_lst da_nil))
      (dss_cons (ds_if (dt_cmp (op_eqU hr.units) dop_eq (de_ix (de_var 2) de_int (fun _ _ => rfl)) de_str (nomark _)) (dss_one (ds_ret (de_var 3))) dss_nil)
      (dss_cons (ds_for (passes_of rfl) rfl (di_range1 b_range (da_cons (de_op op_sub dop_sub (de_b call_len dc_len b_len PySem.boot_len (da_cons (de_var 2) da_nil)) de_int) da_nil)) (dg_name 4 sc__law_open.nd) (dss_cons (ds_expr (de_lm PySem.F.slot_list_extend PySem.F.type_list_extend mt_extend dm_extend (de_var 3) (da_cons (de_c C__law_open hr (passes_call (takes_of rfl rfl rfl rfl) (fun _ _ _ _ h => h)) (da_cons (de_var 0) (da_cons (de_op op_addU dop_add (de_var 1) (de_tup (da_cons (de_var 4) da_nil))) da_nil))) da_nil)))
      (dss_one (ds_if (dw_dt (dw_and (dt_cmp (op_eqU hr.units) dop_eq (de_ix (de_var 2) de_int (fun _ _ => rfl)) de_str (nomark _)) (dw_and1 (dt_not (dt_val (de_c C__law_through hr (passes_call (takes_of rfl rfl rfl rfl) (fun _ _ _ _ h => h)) (da_cons (de_var 0) (da_cons (de_op op_addU dop_add (de_var 1) (de_tup (da_cons (de_var 4) da_nil))) da_nil)))))))) (dss_one (ds_ret (de_var 3))) dss_nil))))
      (dss_one (ds_ret (de_var 3))))))))))) ?_
  rintro _ st Q W ⟨c, t, a, p, u, lk, l, m, ln, mm, rfl, bk, N, lko, em, mok, hu, hh, q⟩
  refine ⟨rfl, ?_⟩
  have mu := (atP_all hu).2.1 c bk.made
  have hpin : p ∈ placesIn t [] := mem_places0.mpr ⟨u, hu⟩
  have hpl := (pl_len bk hpin).2
  obtain ⟨kvs, ea, k1, k2, k3, k4⟩ := N.ex
  have fin : ∀ {b : Addr} {s : Sto}, st b = none → Sub (put st b (.lst ((opnL t lk u p).map encP))) s → Rt Q (.ref b) s := fun {b s} hb hs => by
    refine ⟨_, ?_, q b mm hb mok⟩
    rw [put_id em]; exact hs
  have part : ∀ {k : Nat} {v : Tm}, u.ps[k]? = some v → atP t (kid p k) = some v ∧ high v ≤ n := fun {k v} hv => ⟨kid_at hu hv, by
    have h1 : high v < high u := by
      obtain ⟨w, ns, ps⟩ := u
      have := high_mem (List.mem_of_getElem? hv)
      rw [high]; exact Nat.lt_succ_of_le this.1
    omega⟩
  erw [ea, k3]
  refine ⟨t, p, u, rfl, bk.made.ok, hu, ?_⟩
  rw [enc_w u]
  erw [True.intro]
  refine ⟨small (by decide), ?_⟩
  erw [flat_s, flats_3, in_sac, Bool.false_xor]
  by_cases hl : (u.w.leaf && !decide (u.w = Wd.wait)) = true
  · rw [if_pos hl]
    have e : opnL t lk u p = if (lkF lk p).isSome then [] else [p] := by
      unfold opnL
      obtain ⟨w, ns, ps⟩ := u
      revert hl
      cases w <;> simp [Wd.leaf, Tm.w, opn]
    refine ⟨small (by decide), fun p1 hp1 => ?_⟩
    have ea1 := new_some (o := .lst [encP p]) ea hp1
    have el1 := new_some (o := .lst [encP p]) N.lok hp1
    erw [ea1, k1, dicAt_d el1, lw_key, look_lk, put_same, List.length_cons, List.length_nil]
    cases z : (lkF lk p).isSome with
    | true =>
      rw [z] at e
      refine ⟨⟨by simp, by simp, small (by simp)⟩, fun b hb => fin ((Sub.new hp1).none hb) ?_⟩
      rw [e]
      exact sub_at ((Sub.new hp1).put hb) (by rw [put_same]; rfl)
    | false =>
      rw [z] at e
      refine ⟨⟨by simp, by simp, small (by simp)⟩, fun b hb => fin ((Sub.new hp1).none hb) ?_⟩
      rw [e]
      exact sub_at ((Sub.new hp1).put hb) (by rw [put_same]; rfl)
  rw [if_neg hl]
  by_cases h1 : u.w = .look
  · rw [if_pos h1]
    erw [ea, k1, dicAt_d N.lok, lw_key, look_lk, Bool.false_xor]
    have e : opnL t lk u p = match lkF lk p with | none => [p] | some k => opnPick (ThrL t lk) (lkF lk) u.ps 0 k p := by
      unfold opnL
      obtain ⟨w, ns, ps⟩ := u
      cases (show w = .look from h1)
      rw [opn]; rfl
    cases hk : lkF lk p with
    | none =>
      rw [hk] at e
      rw [if_pos (by simp)]
      refine ⟨small (by decide), fun b hb => fin hb ?_⟩
      rw [e]; exact Sub.refl _
    | some k =>
      rw [hk] at e
      have hlo : lookD (dmap plEnc DV.int lk) (plEnc.key p) = some (.int k) := by rw [lookD_dmap]; show Option.map _ (lkF lk p) = _; rw [hk]; rfl
      rw [if_neg (by simp)]
      erw [ea, k1, dicAt_d N.lok, lw_key, hlo, encP]
      obtain ⟨j, rfl, v, hv⟩ : ∃ j : Nat, k = (j : Int) ∧ ∃ v, u.ps[j]? = some v := by
        have h2 : u.ps.length = 2 := by
          obtain ⟨w, ns, ps⟩ := u
          cases (show w = .look from h1)
          simpa [partsN, Tm.ps] using mu.2.1
        rcases lko (p, k) (assoc_mem hk) u hu h1 with e | e
        · exact ⟨0, e, u.ps[0], List.getElem?_eq_getElem (by omega)⟩
        · exact ⟨1, e, u.ps[1], List.getElem?_eq_getElem (by omega)⟩
      have e2 : opnL t lk u p = opnL t lk v (kid p j) := by
        rw [e]
        have := opnPick_at (T := ThrL t lk) (lk := lkF lk) u.ps 0 j p v hv
        rw [Nat.zero_add] at this
        exact this
      obtain ⟨hv1, hv2⟩ := part hv
      refine ⟨small (by decide), small (by simp; omega), c, t, a, kid p j, v, lk, l, m, ln, mm, by simp [encP, kid], bk, N, lko, em, mok, hv1, hv2, fun b mm' hb h' => ?_⟩
      rw [← e2]
      exact ⟨_, Sub.refl _, q b mm' hb h'⟩
  rw [if_neg h1]
  by_cases h3 : u.w = .lend
  · rw [if_pos h3]
    erw [encP]
    obtain ⟨x, v, rfl⟩ := lend_shape mu h3
    obtain ⟨hv1, hv2⟩ := part (k := 0) (v := v) rfl
    have e2 : opnL t lk (.mk .lend [x] [v]) p = opnL t lk v (kid p 0) := by
      unfold opnL; rw [opn]; simp only [opnAll, List.append_nil]
    refine ⟨small (by decide), small (by simp; omega), c, t, a, kid p 0, v, lk, l, m, ln, mm, by simp [encP, kid], bk, N, lko, em, mok, hv1, hv2, fun b mm' hb h' => ?_⟩
    rw [← e2]
    exact ⟨_, Sub.refl _, q b mm' hb h'⟩
  rw [if_neg h3]
  refine ⟨small (by decide), fun f hf => ?_⟩
  by_cases h2 : u.w = .wait
  · rw [if_pos h2]
    refine fin hf ?_
    have e : opnL t lk u p = [] := by
      unfold opnL
      obtain ⟨w, ns, ps⟩ := u
      cases (show w = .wait from h2)
      rw [opn]
    rw [e]; exact Sub.refl _
  rw [if_neg h2]
  have hn : u.ns = [] := by
    obtain ⟨w, ns, ps⟩ := u
    have := numsOk_len mu.1
    revert this hl h1 h2 h3
    cases w <;> simp [Tm.w, Tm.ns, Wd.leaf, Wd.nums]
  have h6 : u.ps.length ≤ 6 := by
    obtain ⟨w, ns, ps⟩ := u
    have := mu.2.1
    revert this hl h1 h2 h3
    cases w <;> simp [Tm.w, Tm.ps, Wd.leaf, partsN]
    all_goals omega
  rw [hn, List.map_nil, List.nil_append]
  have hN : (((encs u.ps).length + 1 : Nat) : Int) - 1 = (u.ps.length : Nat) := by rw [encs_length]; omega
  rw [hN, Int.toNat_natCast]
  refine ⟨⟨by omega, by omega⟩, ?_⟩
  let g : List Tm → Nat → List Place := fun us k => if u.w = .row then opnRow (ThrL t lk) (lkF lk) us k p else opnAll (ThrL t lk) (lkF lk) us k p
  have e0 : opnL t lk u p = g u.ps 0 := by
    show opnL t lk u p = if u.w = .row then opnRow (ThrL t lk) (lkF lk) u.ps 0 p else opnAll (ThrL t lk) (lkF lk) u.ps 0 p
    unfold opnL
    obtain ⟨w, ns, ps⟩ := u
    revert hl h1 h2 h3
    cases w <;> simp [Tm.w, Tm.ps, Wd.leaf, opn]
  have nfm : f ≠ m := Ne.symm (ne_some em hf)
  have ulen : (opnL t lk u p).length ≤ size t := by
    have hle := opn_lt (T := ThrL t lk) (lk := lkF lk) u p
    have nd : (opnL t lk u p).Nodup := hle.imp fun h e => absurd (e ▸ h) (List.lt_irrefl _)
    have : (opnL t lk u p).length ≤ (placesIn t []).length := nodup_len nd fun x hx => by
      obtain ⟨r, v, e1, e2, _⟩ := opn_mem u p x hx
      rw [e1]; exact mem_places0.mpr ⟨v, atP_app hu e2⟩
    rw [placesIn_length] at this; exact this
  refine forL_by (fun rest ρ sx => ∃ (us : List Tm) (k : Nat) (acc : List Place) (mx : List (Place × Bool)) (x4 : Option DV), rest = (List.range' k us.length).map (fun i => DV.int (0 + (i : Nat))) ∧ ρ = [some (.ref a), some (encP p), some (.tup (.str u.w.str :: encs u.ps)), some (.ref f), x4] ∧ u.ps.drop k = us ∧ acc ++ g us k = opnL t lk u p ∧ MemoOk t lk mx ∧ sx m = some (.dic (dmap plEnc DV.bl mx)) ∧ sx f = some (.lst (acc.map encP)) ∧ Sub (put st m (.dic (dmap plEnc DV.bl mx))) sx) ?_ ?_ _ _ _
    ⟨u.ps, 0, [], mm, none, by unfold rangeD; rw [List.range_eq_range'], rfl, rfl, by rw [e0]; rfl, mok, new_some em hf, put_same, by rw [put_id em]; exact Sub.new hf⟩
  · rintro dd rr ρ sx ⟨us, k, acc, mx, x4, e1, rfl, hus, hacc, mox, emx, efx, subx⟩ ih
    cases us with
    | nil => cases e1
    | cons v us =>
      rw [List.length_cons, List.range'_succ, List.map_cons] at e1
      cases e1
      have hv : u.ps[k]? = some v := by
        have := congrArg List.head? hus
        rwa [List.head?_drop] at this
      have hus' : u.ps.drop (k + 1) = us := by
        have := congrArg List.tail hus
        rwa [List.tail_drop] at this
      obtain ⟨hv1, hv2⟩ := part hv
      have Nx : NowR sx a t lk l m ln := (N.put ⟨_, em⟩).sub subx
      erw [encP, efx]
      refine ⟨small (by decide), small (by simp; omega), c, t, a, kid p k, v, lk, l, m, ln, mx, by simp [encP, kid], bk, Nx, lko, emx, mox, hv1, hv2, fun b my hb hy => ?_⟩
      have nfb : f ≠ b := ne_some efx hb
      have nmb : m ≠ b := ne_some emx hb
      have hb' : put sx m (.dic (dmap plEnc DV.bl my)) b = none := by rw [put_ne (Ne.symm nmb)]; exact hb
      have ef2 : put (put sx m (.dic (dmap plEnc DV.bl my))) b (.lst ((opnL t lk v (kid p k)).map encP)) f = some (.lst (acc.map encP)) := by rw [put_ne nfb, put_ne nfm]; exact efx
      have em2 : put (put sx m (.dic (dmap plEnc DV.bl my))) b (.lst ((opnL t lk v (kid p k)).map encP)) m = some (.dic (dmap plEnc DV.bl my)) := by rw [put_ne nmb, put_same]
      have sub2 : Sub (put st m (.dic (dmap plEnc DV.bl my))) (put (put sx m (.dic (dmap plEnc DV.bl my))) b (.lst ((opnL t lk v (kid p k)).map encP))) := (sub_m subx).put hb'
      have eb2 := put_same (st := put sx m (.dic (dmap plEnc DV.bl my))) (a := b) (o := .lst ((opnL t lk v (kid p k)).map encP))
      generalize put (put sx m (.dic (dmap plEnc DV.bl my))) b (.lst ((opnL t lk v (kid p k)).map encP)) = s2 at ef2 em2 sub2 eb2
      erw [ef2, eb2]
      have hg : g (v :: us) k = opnL t lk v (kid p k) ++ (if u.w = .row ∧ ThrL t lk (kid p k) = false then [] else g us (k + 1)) := by
        show (if u.w = .row then opnRow _ _ (v :: us) k p else opnAll _ _ (v :: us) k p) = _
        by_cases hr : u.w = .row
        · rw [if_pos hr, opnRow]
          show _ ++ _ = opn _ _ _ _ ++ _
          congr 1
          cases z : ThrL t lk (kid p k) with
          | true => rw [if_pos rfl, if_neg (by simp)]; show _ = if u.w = .row then _ else _; rw [if_pos hr]
          | false => rw [if_neg (by simp), if_pos ⟨hr, rfl⟩]
        · rw [if_neg hr, opnAll, if_neg (fun z => hr z.1)]
          show _ = _ ++ if u.w = .row then _ else _
          rw [if_neg hr]; rfl
      rw [hg, ← List.append_assoc] at hacc
      have hlen := congrArg List.length hacc
      simp only [List.length_append] at hlen
      have hs60 := bk.size
      refine ⟨small (by simp only [List.length_map]; omega), ?_⟩
      rw [← List.map_append]
      have sub3 : Sub (put st m (.dic (dmap plEnc DV.bl my))) (put s2 f (.lst ((acc ++ opnL t lk v (kid p k)).map encP))) := sub2.chg (by rw [put_ne nfm]; exact hf)
      have em3 : put s2 f (.lst ((acc ++ opnL t lk v (kid p k)).map encP)) m = some (.dic (dmap plEnc DV.bl my)) := by rw [put_ne (Ne.symm nfm)]; exact em2
      have ef3 := put_same (st := s2) (a := f) (o := .lst ((acc ++ opnL t lk v (kid p k)).map encP))
      generalize put s2 f (.lst ((acc ++ opnL t lk v (kid p k)).map encP)) = s3 at sub3 em3 ef3
      by_cases hr : u.w = .row
      · rw [if_pos hr]
        refine ⟨small (by decide), small (by simp; omega), c, t, a, kid p k, lk, l, m, ln, my, by simp [encP, kid], bk, (N.put ⟨_, em⟩).sub sub3, lko, em3, hy, mem_places0.mpr ⟨v, hv1⟩, fun mz hz => ?_⟩
        have ef4 : put s3 m (.dic (dmap plEnc DV.bl mz)) f = some (.lst ((acc ++ opnL t lk v (kid p k)).map encP)) := by rw [put_ne nfm]; exact ef3
        erw [True.intro]
        cases z : ThrL t lk (kid p k) with
        | false =>
          rw [if_pos (by rfl)]
          rw [if_pos ⟨hr, z⟩, List.append_nil] at hacc
          rw [hacc] at ef4
          exact ⟨_, sub_at (sub_m sub3) ef4, q f mz hf hz⟩
        | true =>
          rw [if_neg (by simp)]
          rw [if_neg (by rw [z]; simp)] at hacc
          exact ih _ _ ⟨us, k + 1, _, mz, _, rfl, rfl, hus', hacc, hz, put_same, ef4, sub_m sub3⟩
      · rw [if_neg hr]
        rw [if_neg (fun z => hr z.1)] at hacc
        exact ih _ _ ⟨us, k + 1, _, my, _, rfl, rfl, hus', hacc, hy, em3, ef3, sub3⟩
  · rintro ρ sx ⟨us, k, acc, mx, x4, e1, rfl, hus, hacc, mox, emx, efx, subx⟩
    cases us with
    | cons v us => cases e1
    | nil =>
      erw [True.intro]
      have : acc = opnL t lk u p := by
        rw [← hacc]
        show acc = acc ++ if u.w = .row then opnRow _ _ [] k p else opnAll _ _ [] k p
        rw [opnRow, opnAll]; simp
      rw [this] at efx
      exact ⟨_, sub_at subx efx, q f mx hf mox⟩
theorem cal__law_open (D : Def K mg "_law_open" s__law_open ["now", "place"]) (b_int : mg "int" = none) (b_range : mg "range" = none) (b_len : mg "len" = none) (C__law_at : Cal P w K mg base 2 "_law_at" ["body", "place"] sp__law_at) (C__law_through : Cal P w K mg base 122 "_law_through" ["now", "place"] sp__law_through) : ∀ n, Cal P w K mg base (122 + n) "_law_open" ["now", "place"] (sp_open n)
  | 0 => (cal_none D fun ds st Q W ⟨c, t, a, p, ⟨w, ns, ps⟩, lk, l, m, ln, mm, _, _, _, _, _, _, _, h, _⟩ => by simp [high] at h).mono (Nat.zero_le _)
  | n + 1 => cal__law_open1 D b_int b_range b_len C__law_at C__law_through (cal__law_open D b_int b_range b_len C__law_at C__law_through n)
/-- asked of the whole -/
def sp__law_open : DSp := fun ds st Q _ => ∃ c t a lk l m ln mm, ds = [.ref a, encP []] ∧ Bk c t ∧ NowR st a t lk l m ln ∧ LkOk t lk ∧ st m = some (.dic (dmap plEnc DV.bl mm)) ∧ MemoOk t lk mm ∧
  ∀ b mm', st b = none → MemoOk t lk mm' → Q (.ref b) (put (put st m (.dic (dmap plEnc DV.bl mm'))) b (.lst ((opnL t lk t []).map encP)))
theorem open_all (h : ∀ n, Cal P w K mg base (122 + n) "_law_open" ["now", "place"] (sp_open n)) : Cal P w K mg base 135 "_law_open" ["now", "place"] sp__law_open := by
  refine (h 13).imp fun ds st Q W ⟨c, t, a, lk, l, m, ln, mm, h1, bk, h3, h4, h5, h6, h7⟩ => ⟨c, t, a, [], t, lk, l, m, ln, mm, h1, bk, h3, h4, h5, h6, atP_nil t, bk.high, h7⟩

/-! what begins and what is through, as sets that hold each other up -/
section
variable (t : Tm) (lk : Place → Option Int)
/-- one step: begun -/
def stO (O T : Place → Prop) (x : Place) : Prop := x ∈ placesIn t [] ∧ (x = [] ∨ ∃ r j v, x = r ++ [j] ∧ O r ∧ atP t r = some v ∧ (match v.w with
  | .look => lk r = some j
  | .lend => True
  | .both => True
  | .row => j = 0 ∨ T (r ++ [j - 1])
  | _ => False))
/-- one step: through -/
def stT (O T : Place → Prop) (x : Place) : Prop := O x ∧ ∃ v, atP t x = some v ∧ (match v.w with
  | .look => ∃ k, lk x = some k ∧ T (x ++ [k])
  | .wait => ∀ h ∈ v.ns, T (lentPl t h)
  | .lend => True
  | .row => v.ps = [] ∨ T (kid x (v.ps.length - 1))
  | .both => ∀ k, k < v.ps.length → T (kid x k)
  | _ => (lk x).isSome = true)
end
theorem at_kid {t v : Tm} {r : Place} {j : Int} (hv : atP t r = some v) (h : r ++ [j] ∈ placesIn t []) : 0 ≤ j ∧ j.toNat < v.ps.length := by
  obtain ⟨u, hu⟩ := mem_places0.mp h
  obtain ⟨v', h1, h2⟩ := atP_split hu
  rw [hv] at h1; cases h1
  obtain ⟨hk, y, e1, _⟩ := atP_cons h2
  exact ⟨hk, (List.getElem?_eq_some_iff.mp e1).1⟩
theorem kid_in {t v : Tm} {r : Place} {j : Int} (hv : atP t r = some v) (h0 : 0 ≤ j) (h : j.toNat < v.ps.length) : r ++ [j] ∈ placesIn t [] := by
  have := lw_kid hv h
  unfold kid at this
  rwa [Int.toNat_of_nonneg h0] at this
theorem fix_O {t : Tm} {lk : Place → Option Int} {O T : Place → Prop} {B : Place → Bool} (hO : ∀ x, O x ↔ stO t lk O T x) (hT : ∀ x, T x → O x) : ∀ (n : Nat) (x : Place), x.length = n → (∀ c (a b : Int) z, x = c ++ b :: z → a < b → c ++ [a] ∈ placesIn t [] → (T (c ++ [a]) ↔ OS t lk (fun z => B z = true) (c ++ [a]) ∧ B (c ++ [a]) = true)) → (O x ↔ OS t lk (fun z => B z = true) x) := by
  intro n
  induction n with
  | zero =>
    intro x hn _
    cases List.length_eq_zero_iff.mp hn
    exact ⟨fun _ => OS_nil, fun _ => (hO _).mpr ⟨mem_places0.mpr ⟨t, atP_nil t⟩, .inl rfl⟩⟩
  | succ n ih =>
    intro x hn hy
    have hne : x ≠ [] := by intro e; rw [e] at hn; cases hn
    obtain ⟨r, j, rfl⟩ : ∃ r j, x = r ++ [j] := ⟨x.dropLast, x.getLast hne, (List.dropLast_concat_getLast hne).symm⟩
    have hr : O r ↔ OS t lk (fun z => B z = true) r := ih r (by simpa using hn) fun c a b z e h1 h2 => hy c a b (z ++ [j]) (by rw [e]; simp) h1 h2
    have hl := hy r (j - 1) j [] rfl (by omega)
    rw [hO, OS_snoc]
    constructor
    · rintro ⟨hin, h | ⟨r', j', v, e, h1, h2, h3⟩⟩
      · exact absurd h hne
      · have e2 := List.append_inj' e rfl
        cases e2.1; cases e2.2
        refine ⟨hin, hr.mp h1, v, h2, ?_⟩
        cases hw : v.w <;> rw [hw] at h3 <;> simp only at h3 ⊢
        · exact h3
        · intro i hi
          rcases h3 with h3 | h3
          · omega
          · have h4 := (hl ((hO _).mp (hT _ h3)).1).mp h3
            by_cases e : (i : Int) = j - 1
            · show B (r ++ [(i : Int)]) = true
              rw [e]; exact h4.2
            · obtain ⟨v', hv', h5⟩ := (OS_snoc.mp h4.1).2.2
              rw [h2] at hv'; cases hv'
              rw [hw] at h5
              exact h5 i (by omega)
    · rintro ⟨hin, h1, v, h2, h3⟩
      refine ⟨hin, .inr ⟨r, j, v, rfl, hr.mpr h1, h2, ?_⟩⟩
      cases hw : v.w <;> rw [hw] at h3 <;> simp only at h3 ⊢
      · exact h3
      · obtain ⟨h0, h4⟩ := at_kid h2 hin
        by_cases e : j = 0
        · exact .inl e
        · right
          have hin' : r ++ [j - 1] ∈ placesIn t [] := kid_in h2 (by omega) (by omega)
          refine (hl hin').mpr ⟨OS_snoc.mpr ⟨hin', h1, v, h2, ?_⟩, ?_⟩
          · rw [hw]; exact fun i hi => h3 i (by omega)
          · have := h3 (j - 1).toNat (by omega)
            unfold kid at this
            rwa [Int.toNat_of_nonneg (by omega)] at this
theorem lent_open {c : Int} {t u : Tm} {lk : Place → Option Int} {B : Place → Bool} {x : Place} {h : Int} (bk : Bk c t) (hu : atP t x = some u) (hw : u.w = .wait) (hh : h ∈ u.ns) (ho : OS t lk (fun z => B z = true) x) : OS t lk (fun z => B z = true) (lentPl t h) := by
  rcases waits_row t [] bk.made.ok bk.waits x u hu hw h hh with z | ⟨r, i, j, q, v, e1, e2, e3, e4, e5, z, e6, e7⟩
  · cases z
  · obtain ⟨a, y, rfl⟩ := lend_shape ((atP_all e3).2.1 c bk.made) e4
    have hx : h = a := by simpa [Tm.ns] using e5
    subst hx
    have hin : (h, kid (kid r i) 0) ∈ lentM t := by
      refine List.mem_filterMap.mpr ⟨kid r i, mem_places0.mpr ⟨_, e3⟩, ?_⟩
      unfold lendAt; rw [e3]; rfl
    rw [lentPl_uniq bk hin]
    subst e1
    have h1 := OS_pre ho
    obtain ⟨z', h2, h3⟩ := OS_kid ho
    rw [e6] at h2; cases h2
    rw [e7] at h3
    have h4 : OS t lk (fun z => B z = true) (kid r i) := OS_snoc.mpr ⟨mem_places0.mpr ⟨_, e3⟩, h1, z, e6, by rw [e7]; exact fun k hk => h3 k (by omega)⟩
    exact OS_snoc.mpr ⟨lw_kid e3 (by simp [Tm.ps]), h4, _, e3, trivial⟩
/-- there is one such pair of sets -/
theorem fix_T {c : Int} {t : Tm} {lk : Lk} {O T : Place → Prop} (bk : Bk c t) (lko : LkOk t lk) (hO : ∀ x, O x ↔ stO t (lkF lk) O T x) (hT : ∀ x, T x ↔ stT t (lkF lk) O T x) : ∀ (n : Nat) (x : Place), x ∈ placesIn t [] → rank t x < n → (T x ↔ OS t (lkF lk) (fun z => ThrL t lk z = true) x ∧ ThrL t lk x = true) := by
  intro n
  have hTO : ∀ x, T x → O x := fun x h => ((hT x).mp h).1
  induction n with
  | zero => intro x _ h; omega
  | succ n ih =>
    intro x hx hr
    obtain ⟨u, hu⟩ := mem_places0.mp hx
    have mu := (atP_all hu).2.1 c bk.made
    have low : ∀ {y : Place}, y ∈ placesIn t [] → postLt y x = true → (T y ↔ OS t (lkF lk) (fun z => ThrL t lk z = true) y ∧ ThrL t lk y = true) := fun {y} h1 h2 => ih y h1 (by have := rank_lt h1 h2; omega)
    have hox : O x ↔ OS t (lkF lk) (fun z => ThrL t lk z = true) x := fix_O hO hTO _ x rfl fun c' a b z e h1 h2 => low h2 (by
      rw [e]; exact postLt_left c' h1 [] z)
    have teq : ThrL t lk x = _ := Thr_eq (lk := lkF lk) (lnOk bk) hu
    have kidl : ∀ {k : Nat}, k < u.ps.length → (T (kid x k) ↔ OS t (lkF lk) (fun z => ThrL t lk z = true) (kid x k) ∧ ThrL t lk (kid x k) = true) := fun {k} hk => low (lw_kid hu hk) (postLt_kid x k [])
    rw [hT, teq]
    show (O x ∧ _) ↔ _
    rw [hox]
    constructor
    · rintro ⟨h1, v, hv, h2⟩
      rw [hu] at hv; cases hv
      refine ⟨h1, ?_⟩
      cases hw : u.w <;> rw [hw] at h2 <;> simp only at h2 ⊢
      · exact h2
      · exact h2
      · exact h2
      · obtain ⟨k, h3, h4⟩ := h2
        rw [h3]
        exact ((low (lw_lookk bk lko hu hw h3) (postLt_kid x k [])).mp h4).2
      · rw [List.all_eq_true]
        intro k hk
        have hk := List.mem_range.mp hk
        rcases h2 with h2 | h2
        · rw [h2] at hk; simp at hk
        · have h3 := (kidl (by omega)).mp h2
          by_cases e : k = u.ps.length - 1
          · rw [e]; exact h3.2
          · obtain ⟨v', hv', h5⟩ := (OS_snoc.mp h3.1).2.2
            rw [hu] at hv'; cases hv'
            rw [hw] at h5
            exact h5 k (by omega)
      · rw [List.all_eq_true]
        intro k hk
        exact ((kidl (List.mem_range.mp hk)).mp (h2 k (List.mem_range.mp hk))).2
      · rw [List.all_eq_true]
        intro h hh
        obtain ⟨h3, h4⟩ := lnOk bk x u h hu hw hh
        exact ((low h3 h4).mp (h2 h hh)).2
    · rintro ⟨h1, h2⟩
      refine ⟨h1, u, hu, ?_⟩
      cases hw : u.w <;> rw [hw] at h2 <;> simp only at h2 ⊢
      · exact h2
      · exact h2
      · exact h2
      · cases hk : lkF lk x with
        | none => rw [hk] at h2; cases h2
        | some k =>
          rw [hk] at h2
          have hin := lw_lookk bk lko hu hw hk
          exact ⟨k, rfl, (low hin (postLt_kid x k [])).mpr ⟨OS_snoc.mpr ⟨hin, h1, u, hu, by rw [hw]; exact hk⟩, h2⟩⟩
      · rw [List.all_eq_true] at h2
        by_cases e : u.ps = []
        · exact .inl e
        · have hl : 0 < u.ps.length := List.length_pos_iff.mpr e
          refine .inr ((kidl (by omega)).mpr ⟨OS_snoc.mpr ⟨lw_kid hu (by omega), h1, u, hu, ?_⟩, h2 _ (List.mem_range.mpr (by omega))⟩)
          rw [hw]
          intro i hi
          exact h2 i (List.mem_range.mpr (by omega))
      · rw [List.all_eq_true] at h2
        intro k hk
        exact (kidl hk).mpr ⟨OS_snoc.mpr ⟨lw_kid hu hk, h1, u, hu, by rw [hw]; trivial⟩, h2 k (List.mem_range.mpr hk)⟩
      · rw [List.all_eq_true] at h2
        intro h hh
        obtain ⟨h3, h4⟩ := lnOk bk x u h hu hw hh
        exact (low h3 h4).mpr ⟨lent_open bk hu hw hh h1, h2 h hh⟩
/-- what is open, said at once -/
theorem fix_all {c : Int} {t : Tm} {lk : Lk} {O T : Place → Prop} (bk : Bk c t) (lko : LkOk t lk) (hO : ∀ x, O x ↔ stO t (lkF lk) O T x) (hT : ∀ x, T x ↔ stT t (lkF lk) O T x) (x : Place) : O x ↔ OS t (lkF lk) (fun z => ThrL t lk z = true) x :=
  fix_O hO (fun x h => ((hT x).mp h).1) _ x rfl fun c' a b z e h1 h2 => fix_T bk lko hO hT _ _ h2 (Nat.lt_succ_self _)

section
variable {T : Place → Bool} {lk : Place → Option Int}
theorem opnAll_iff (x : Place) (p : Place) : ∀ (us : List Tm) (k : Nat), x ∈ opnAll T lk us k p ↔ ∃ (i : Nat) (v : Tm), us[i]? = some v ∧ x ∈ opn T lk v (kid p (k + i))
  | [], k => by rw [opnAll]; simp
  | u :: r, k => by
    rw [opnAll, List.mem_append, opnAll_iff x p r (k + 1)]
    constructor
    · rintro (h | ⟨i, v, h1, h2⟩)
      · exact ⟨0, u, rfl, h⟩
      · exact ⟨i + 1, v, by simpa using h1, by rw [show k + (i + 1) = k + 1 + i by omega]; exact h2⟩
    · rintro ⟨i, v, h1, h2⟩
      cases i with
      | zero => simp at h1; subst h1; exact .inl h2
      | succ i => exact .inr ⟨i, v, by simpa using h1, by rw [show k + 1 + i = k + (i + 1) by omega]; exact h2⟩
theorem opnRow_iff (x : Place) (p : Place) : ∀ (us : List Tm) (k : Nat), x ∈ opnRow T lk us k p ↔ ∃ (i : Nat) (v : Tm), us[i]? = some v ∧ x ∈ opn T lk v (kid p (k + i)) ∧ ∀ j, j < i → T (kid p (k + j)) = true
  | [], k => by rw [opnRow]; simp
  | u :: r, k => by
    rw [opnRow, List.mem_append]
    constructor
    · rintro (h | h)
      · exact ⟨0, u, rfl, h, fun j hj => by omega⟩
      · split at h
        · rename_i hk
          obtain ⟨i, v, h1, h2, h3⟩ := (opnRow_iff x p r (k + 1)).mp h
          refine ⟨i + 1, v, by simpa using h1, by rw [show k + (i + 1) = k + 1 + i by omega]; exact h2, fun j hj => ?_⟩
          cases j with
          | zero => exact hk
          | succ j => rw [show k + (j + 1) = k + 1 + j by omega]; exact h3 j (by omega)
        · cases h
    · rintro ⟨i, v, h1, h2, h3⟩
      cases i with
      | zero => simp at h1; subst h1; exact .inl h2
      | succ i =>
        right
        rw [if_pos (show T (kid p k) = true from h3 0 (by omega))]
        exact (opnRow_iff x p r (k + 1)).mpr ⟨i, v, by simpa using h1, by rw [show k + 1 + i = k + (i + 1) by omega]; exact h2, fun j hj => by rw [show k + 1 + j = k + (j + 1) by omega]; exact h3 (j + 1) (by omega)⟩
theorem opnPick_iff (x : Place) (p : Place) (m : Int) : ∀ (us : List Tm) (k : Nat), x ∈ opnPick T lk us k m p ↔ ∃ (i : Nat) (v : Tm), us[i]? = some v ∧ ((k + i : Nat) : Int) = m ∧ x ∈ opn T lk v (kid p (k + i))
  | [], k => by rw [opnPick]; simp
  | u :: r, k => by
    rw [opnPick]
    split
    · rename_i e
      constructor
      · intro h; exact ⟨0, u, rfl, e, h⟩
      · rintro ⟨i, v, h1, h2, h3⟩
        have : i = 0 := by omega
        subst this
        simp at h1; subst h1; exact h3
    · rename_i e
      rw [opnPick_iff x p m r (k + 1)]
      constructor
      · rintro ⟨i, v, h1, h2, h3⟩
        exact ⟨i + 1, v, by simpa using h1, by omega, by rw [show k + (i + 1) = k + 1 + i by omega]; exact h3⟩
      · rintro ⟨i, v, h1, h2, h3⟩
        cases i with
        | zero => exact absurd h2 e
        | succ i => exact ⟨i, v, by simpa using h1, by omega, by rw [show k + 1 + i = k + (i + 1) by omega]; exact h3⟩
end
theorem opn_iff {t : Tm} {lk : Place → Option Int} {B : Place → Bool} : ∀ (n : Nat) (u : Tm) (p : Place), high u ≤ n → atP t p = some u → OS t lk (fun z => B z = true) p → ∀ x, x ∈ opn B lk u p ↔ (∃ q, x = p ++ q) ∧ OS t lk (fun z => B z = true) x ∧ isDeed t x = true ∧ lk x = none := by
  intro n
  induction n with
  | zero => intro u p h; obtain ⟨w, ns, ps⟩ := u; rw [high] at h; omega
  | succ n ih =>
    intro u p hh hu ho x
    -- what a part has
    have sub : ∀ {i : Nat} {v : Tm}, u.ps[i]? = some v → OS t lk (fun z => B z = true) (kid p i) → (x ∈ opn B lk v (kid p i) ↔ (∃ q, x = kid p i ++ q) ∧ OS t lk (fun z => B z = true) x ∧ isDeed t x = true ∧ lk x = none) := fun {i v} hv hk => by
      refine ih v (kid p i) ?_ (kid_at hu hv) hk x
      have h1 : high v < high u := by
        obtain ⟨w, ns, ps⟩ := u
        rw [high]; exact Nat.lt_succ_of_le (high_mem (List.mem_of_getElem? hv)).1
      omega
    have opk : ∀ {i : Nat} {v : Tm}, u.ps[i]? = some v → kidS t lk (fun z => B z = true) p i → OS t lk (fun z => B z = true) (kid p i) := fun {i v} hv hk => OS_snoc.mpr ⟨mem_places0.mpr ⟨v, kid_at hu hv⟩, ho, hk⟩
    -- from the outside
    have inw : ∀ {q : Place}, x = p ++ q → q ≠ [] → OS t lk (fun z => B z = true) x → ∃ (i : Nat) (v : Tm) (q' : Place), u.ps[i]? = some v ∧ x = kid p i ++ q' ∧ kidS t lk (fun z => B z = true) p i := fun {q} e hq hx => by
      cases q with
      | nil => exact absurd rfl hq
      | cons j q =>
        subst e
        obtain ⟨z, hz⟩ := mem_places0.mp hx.1
        obtain ⟨v', h1, h2⟩ := atP_split hz
        rw [hu] at h1; cases h1
        obtain ⟨hk, y, e1, e2⟩ := atP_cons h2
        refine ⟨j.toNat, y, q, e1, ?_, ?_⟩
        · unfold kid; rw [Int.toNat_of_nonneg hk]; simp
        · rw [Int.toNat_of_nonneg hk]; exact OS_kid hx
    have self : isDeed t p = u.w.deed := by unfold isDeed; rw [hu]; rfl
    have hks : ∀ i : Int, kidS t lk (fun z => B z = true) p i ↔ (match u.w with | .look => lk p = some i | .lend => True | .both => True | .row => ∀ k : Nat, (k : Int) < i → B (kid p k) = true | _ => False) := fun i =>
      ⟨fun ⟨v, h1, h2⟩ => by rw [hu] at h1; cases h1; exact h2, fun h => ⟨u, hu, h⟩⟩
    obtain ⟨w, ns, ps⟩ := u
    have leafc : w.leaf = true → w.deed = true → (x ∈ (if (lk p).isSome then [] else [p]) ↔ (∃ q, x = p ++ q) ∧ OS t lk (fun z => B z = true) x ∧ isDeed t x = true ∧ lk x = none) := fun hl hd => by
      constructor
      · intro h
        split at h
        · cases h
        · rename_i hn
          simp at h; subst h
          exact ⟨⟨[], by simp⟩, ho, by rw [self]; exact hd, by cases z : lk x <;> simp_all⟩
      · rintro ⟨⟨q, e⟩, h1, h2, h3⟩
        by_cases hq : q = []
        · subst hq; rw [List.append_nil] at e; subst e; rw [h3]; simp
        · obtain ⟨i, v, q', h4, h5, h6⟩ := inw e hq h1
          have := (hks i).mp h6
          revert this hl
          cases w <;> simp [Wd.leaf, Tm.w]
    cases w <;> rw [opn]
    · exact leafc rfl rfl
    · exact leafc rfl rfl
    · exact leafc rfl rfl
    · cases hk : lk p with
      | none =>
        simp only
        constructor
        · intro h
          simp at h; subst h
          exact ⟨⟨[], by simp⟩, ho, self, hk⟩
        · rintro ⟨⟨q, e⟩, h1, h2, h3⟩
          by_cases hq : q = []
          · subst hq; rw [List.append_nil] at e; subst e; simp
          · obtain ⟨i, v, q', h4, h5, h6⟩ := inw e hq h1
            have h7 : lk p = some (i : Int) := (hks i).mp h6
            rw [hk] at h7; cases h7
      | some k =>
        simp only
        rw [opnPick_iff]
        constructor
        · rintro ⟨i, v, h1, h2, h3⟩
          rw [Nat.zero_add] at h2 h3
          obtain ⟨⟨q, e⟩, h4⟩ := (sub h1 (opk h1 ((hks i).mpr (by show lk p = some (i : Int); rw [hk, h2])))).mp h3
          exact ⟨⟨(i : Int) :: q, by rw [e]; simp [kid]⟩, h4⟩
        · rintro ⟨⟨q, e⟩, h1, h2, h3⟩
          by_cases hq : q = []
          · subst hq; rw [List.append_nil] at e; subst e; rw [hk] at h3; cases h3
          · obtain ⟨i, v, q', h4, h5, h6⟩ := inw e hq h1
            have h7 : lk p = some (i : Int) := (hks i).mp h6
            rw [hk] at h7; cases h7
            refine ⟨i, v, h4, by rw [Nat.zero_add], ?_⟩
            rw [Nat.zero_add]
            exact (sub h4 (opk h4 h6)).mpr ⟨⟨q', h5⟩, h1, h2, h3⟩
    · rw [opnRow_iff]
      constructor
      · rintro ⟨i, v, h1, h3, h4⟩
        rw [Nat.zero_add] at h3
        obtain ⟨⟨q, e⟩, h5⟩ := (sub h1 (opk h1 ((hks i).mpr fun k hk => by have := h4 k (by omega); rwa [Nat.zero_add] at this))).mp h3
        exact ⟨⟨(i : Int) :: q, by rw [e]; simp [kid]⟩, h5⟩
      · rintro ⟨⟨q, e⟩, h1, h2, h3⟩
        by_cases hq : q = []
        · subst hq; rw [List.append_nil] at e; subst e; rw [self] at h2; cases h2
        · obtain ⟨i, v, q', h4, h5, h6⟩ := inw e hq h1
          have h7 : ∀ k : Nat, (k : Int) < i → B (kid p k) = true := (hks i).mp h6
          refine ⟨i, v, h4, ?_, fun j hj => by rw [Nat.zero_add]; exact h7 j (by omega)⟩
          rw [Nat.zero_add]
          exact (sub h4 (opk h4 h6)).mpr ⟨⟨q', h5⟩, h1, h2, h3⟩
    · rw [opnAll_iff]
      constructor
      · rintro ⟨i, v, h1, h3⟩
        rw [Nat.zero_add] at h3
        obtain ⟨⟨q, e⟩, h5⟩ := (sub h1 (opk h1 ((hks i).mpr trivial))).mp h3
        exact ⟨⟨(i : Int) :: q, by rw [e]; simp [kid]⟩, h5⟩
      · rintro ⟨⟨q, e⟩, h1, h2, h3⟩
        by_cases hq : q = []
        · subst hq; rw [List.append_nil] at e; subst e; rw [self] at h2; cases h2
        · obtain ⟨i, v, q', h4, h5, h6⟩ := inw e hq h1
          refine ⟨i, v, h4, ?_⟩
          rw [Nat.zero_add]
          exact (sub h4 (opk h4 h6)).mpr ⟨⟨q', h5⟩, h1, h2, h3⟩
    · rw [opnAll_iff]
      constructor
      · rintro ⟨i, v, h1, h3⟩
        rw [Nat.zero_add] at h3
        obtain ⟨⟨q, e⟩, h5⟩ := (sub h1 (opk h1 ((hks i).mpr trivial))).mp h3
        exact ⟨⟨(i : Int) :: q, by rw [e]; simp [kid]⟩, h5⟩
      · rintro ⟨⟨q, e⟩, h1, h2, h3⟩
        by_cases hq : q = []
        · subst hq; rw [List.append_nil] at e; subst e; rw [self] at h2; cases h2
        · obtain ⟨i, v, q', h4, h5, h6⟩ := inw e hq h1
          refine ⟨i, v, h4, ?_⟩
          rw [Nat.zero_add]
          exact (sub h4 (opk h4 h6)).mpr ⟨⟨q', h5⟩, h1, h2, h3⟩
    · constructor
      · intro h; cases h
      · rintro ⟨⟨q, e⟩, h1, h2, h3⟩
        by_cases hq : q = []
        · subst hq; rw [List.append_nil] at e; subst e; rw [self] at h2; cases h2
        · obtain ⟨i, v, q', h4, h5, h6⟩ := inw e hq h1
          exact ((hks i).mp h6).elim
theorem opnL_iff {t : Tm} {lk : Lk} {x : Place} : x ∈ opnL t lk t [] ↔ OS t (lkF lk) (fun z => ThrL t lk z = true) x ∧ isDeed t x = true ∧ lkF lk x = none := by
  have := opn_iff (B := ThrL t lk) (lk := lkF lk) (high t) t [] (Nat.le_refl _) (atP_nil t) OS_nil x
  rw [show opnL t lk t [] = opn (ThrL t lk) (lkF lk) t [] from rfl, this]
  exact ⟨fun h => h.2, fun h => ⟨⟨x, rfl⟩, h⟩⟩

/-! what is opened -/
abbrev Op (t : Tm) (lk : Lk) (x : Place) : Prop := OS t (lkF lk) (fun z => ThrL t lk z = true) x
theorem lent_row {c : Int} {t : Tm} (bk : Bk c t) {u : Tm} {x : Place} {h : Int} (hu : atP t x = some u) (hw : u.w = .wait) (hh : h ∈ u.ns) : ∃ (r : Place) (i j : Nat) (q : Place) (z v : Tm), x = r ++ ((j : Int) :: q) ∧ i < j ∧ atP t (kid r i) = some v ∧ v.w = .lend ∧ atP t r = some z ∧ z.w = .row ∧ lentPl t h = kid (kid r i) 0 := by
  rcases waits_row t [] bk.made.ok bk.waits x u hu hw h hh with z | ⟨r, i, j, q, v, e1, e2, e3, e4, e5, z, e6, e7⟩
  · cases z
  · refine ⟨r, i, j, q, z, v, e1, e2, e3, e4, e6, e7, ?_⟩
    obtain ⟨a, y, rfl⟩ := lend_shape ((atP_all e3).2.1 c bk.made) e4
    have hx : h = a := by simpa [Tm.ns] using e5
    subst hx
    have hin : (h, kid (kid r i) 0) ∈ lentM t := by
      refine List.mem_filterMap.mpr ⟨kid r i, mem_places0.mpr ⟨_, e3⟩, ?_⟩
      unfold lendAt; rw [e3]; rfl
    exact lentPl_uniq bk hin
/-! the more is done, the more is open -/
def Ext (lk lk' : Lk) : Prop := ∀ x k, lkF lk x = some k → lkF lk' x = some k
theorem lkF_add (lk : Lk) (x : Place) (k : Int) (y : Place) : lkF (lk ++ [(x, k)]) y = (lkF lk y).or (if x = y then some k else none) := by
  unfold lkF; rw [assoc_append, assoc_cons, assoc_nil]
theorem ext_add (lk : Lk) (x : Place) (k : Int) : Ext lk (lk ++ [(x, k)]) := fun y j h => by rw [lkF_add, h]; rfl
theorem thr_mono {c : Int} {t : Tm} (bk : Bk c t) {lk lk' : Lk} (lko : LkOk t lk) (e : Ext lk lk') : ∀ (n : Nat) (x : Place), x ∈ placesIn t [] → rank t x < n → ThrL t lk x = true → ThrL t lk' x = true := by
  intro n
  induction n with
  | zero => intro x _ h; omega
  | succ n ih =>
    intro x hx hr hT
    obtain ⟨u, hu⟩ := mem_places0.mp hx
    have low : ∀ {y : Place}, y ∈ placesIn t [] → postLt y x = true → ThrL t lk y = true → ThrL t lk' y = true := fun {y} h1 h2 => ih y h1 (by have := rank_lt h1 h2; omega)
    have t1 : ThrL t lk x = _ := Thr_eq (lk := lkF lk) (lnOk bk) hu
    have t2 : ThrL t lk' x = _ := Thr_eq (lk := lkF lk') (lnOk bk) hu
    rw [t1] at hT
    rw [t2]
    have lf : (lkF lk x).isSome = true → (lkF lk' x).isSome = true := fun h => by
      obtain ⟨k, hk⟩ := Option.isSome_iff_exists.mp h
      rw [e x k hk]; rfl
    cases hw : u.w <;> rw [hw] at hT <;> simp only at hT ⊢
    · exact lf hT
    · exact lf hT
    · exact lf hT
    · cases hk : lkF lk x with
      | none => rw [hk] at hT; cases hT
      | some k =>
        rw [hk] at hT
        rw [e x k hk]
        exact low (lw_lookk bk lko hu hw hk) (postLt_kid x k []) hT
    · rw [List.all_eq_true] at hT ⊢
      exact fun k hk => low (lw_kid hu (List.mem_range.mp hk)) (postLt_kid x k []) (hT k hk)
    · rw [List.all_eq_true] at hT ⊢
      exact fun k hk => low (lw_kid hu (List.mem_range.mp hk)) (postLt_kid x k []) (hT k hk)
    · rw [List.all_eq_true] at hT ⊢
      intro h hh
      obtain ⟨h3, h4⟩ := lnOk bk x u h hu hw hh
      exact low h3 h4 (hT h hh)
theorem op_mono {c : Int} {t : Tm} (bk : Bk c t) {lk lk' : Lk} (lko : LkOk t lk) (e : Ext lk lk') {x : Place} (h : Op t lk x) : Op t lk' x := by
  refine ⟨h.1, fun r j y hx => ?_⟩
  obtain ⟨v, hv, hk⟩ := h.2 r j y hx
  refine ⟨v, hv, ?_⟩
  have hin : r ++ [j] ∈ placesIn t [] := by
    obtain ⟨u, hu⟩ := mem_places0.mp h.1
    obtain ⟨u', h1, _⟩ := atP_split (p := r ++ [j]) (q := y) (by rw [List.append_assoc]; rw [hx] at hu; exact hu)
    exact mem_places0.mpr ⟨u', h1⟩
  obtain ⟨h0, hj⟩ := at_kid hv hin
  revert hk
  cases v.w <;> simp only <;> intro hk
  · exact hk
  · exact hk
  · exact hk
  · exact e _ _ hk
  · exact fun i hi => thr_mono bk lko e _ _ (lw_kid hv (by omega)) (Nat.lt_succ_self _) (hk i hi)
  · exact hk
  · exact hk
  · exact hk

/-! all but one deed done: what is left is what is behind it -/
abbrev RO (t : Tm) : Pt → List Pt := outs (edgesAllL t)
inductive EdgeK (t : Tm) : Pt → Pt → Prop
  | base {x : Place} {u : Tm} : atP t x = some u → (u.w.leaf = true ∨ u.w = .lend ∨ (u.w = .row ∧ u.ps.length = 0)) → EdgeK t (true, x) (false, x)
  | wait {x : Place} {u : Tm} {h : Int} : atP t x = some u → u.w = .wait → h ∈ u.ns → EdgeK t (false, lentPl t h) (false, x)
  | inn {x : Place} {u : Tm} {k : Nat} : atP t x = some u → k < u.ps.length → (k = 0 ∨ u.w ≠ .row) → EdgeK t (true, x) (true, kid x k)
  | next {x : Place} {u : Tm} {k : Nat} : atP t x = some u → k + 1 < u.ps.length → u.w = .row → EdgeK t (false, kid x k) (true, kid x (k + 1))
  | out {x : Place} {u : Tm} {k : Nat} : atP t x = some u → k < u.ps.length → ((u.w = .both ∨ u.w = .look) ∨ (u.w = .row ∧ k = u.ps.length - 1)) → EdgeK t (false, kid x k) (false, x)
theorem edgeK_of {t : Tm} {q r : Pt} (h : r ∈ RO t q) : EdgeK t q r := by
  have h := outs_mem.mp h
  unfold edgesAllL at h
  obtain ⟨x, hx, he⟩ := List.mem_flatMap.mp h
  obtain ⟨u, hu⟩ := mem_places0.mp hx
  unfold edgesAtL at he
  rw [hu] at he
  simp only [List.mem_append] at he
  rcases he with (he | he) | he
  · unfold baseL at he
    split at he
    · rename_i hc; simp at he; obtain ⟨rfl, rfl⟩ := he; exact .base hu hc
    · cases he
  · unfold waitE at he
    split at he
    · rename_i hw
      obtain ⟨y, hy, e⟩ := List.mem_map.mp he
      cases e; exact .wait hu hw hy
    · cases he
  · obtain ⟨k, hk, he⟩ := List.mem_flatMap.mp he
    have hk' := List.mem_range.mp hk
    unfold edgeK at he
    rw [List.mem_append] at he
    rcases he with he | he
    · split at he
      · rename_i hc; simp at he; obtain ⟨rfl, rfl⟩ := he; exact .inn hu hk' hc
      · rename_i hc
        simp at he; obtain ⟨rfl, rfl⟩ := he
        have h0 : k ≠ 0 := fun z => hc (.inl z)
        have hr : u.w = .row := Decidable.byContradiction fun z => hc (.inr z)
        obtain ⟨j, rfl⟩ : ∃ j, k = j + 1 := ⟨k - 1, by omega⟩
        exact .next hu hk' hr
    · split at he
      · rename_i hc; simp at he; obtain ⟨rfl, rfl⟩ := he; exact .out hu hk' hc
      · cases he
theorem edgeK_to {t : Tm} {q r : Pt} (h : EdgeK t q r) : r ∈ RO t q := by
  have mk : ∀ {x : Place} {u : Tm} {e : Pt × Pt}, atP t x = some u → e ∈ baseL u x ++ waitE t u x ++ (List.range u.ps.length).flatMap (edgeK u.w u.ps.length x) → e ∈ edgesAllL t := fun {x u e} hu h =>
    List.mem_flatMap.mpr ⟨x, mem_places0.mpr ⟨u, hu⟩, by unfold edgesAtL; rw [hu]; exact h⟩
  apply outs_mem.mpr
  cases h with
  | base hu hc => exact mk hu (List.mem_append.mpr (.inl (List.mem_append.mpr (.inl (by unfold baseL; rw [if_pos hc]; simp)))))
  | wait hu hw hh => exact mk hu (List.mem_append.mpr (.inl (List.mem_append.mpr (.inr (by unfold waitE; rw [if_pos hw]; exact List.mem_map.mpr ⟨_, hh, rfl⟩)))))
  | inn hu hk hc => exact mk hu (List.mem_append.mpr (.inr (List.mem_flatMap.mpr ⟨_, List.mem_range.mpr hk, by unfold edgeK; rw [if_pos hc]; simp⟩)))
  | next hu hk hw => exact mk hu (List.mem_append.mpr (.inr (List.mem_flatMap.mpr ⟨_, List.mem_range.mpr hk, by unfold edgeK; rw [if_neg (by simp [hw])]; simp⟩)))
  | out hu hk hc => exact mk hu (List.mem_append.mpr (.inr (List.mem_flatMap.mpr ⟨_, List.mem_range.mpr hk, by unfold edgeK; rw [if_pos hc]; simp⟩)))
theorem Reach.trans {α : Type} {o : α → List α} {a b c : α} (h1 : Reach o a b) (h2 : Reach o b c) : Reach o a c := by
  induction h2 with
  | refl => exact h1
  | step _ hr ih => exact .step ih hr
theorem Reach.edge {t : Tm} {a b : Pt} (h : EdgeK t a b) : Reach (RO t) a b := .step .refl (edgeK_to h)
theorem Reach.snoc {t : Tm} {a b c : Pt} (h1 : Reach (RO t) a b) (h : EdgeK t b c) : Reach (RO t) a c := .step h1 (edgeK_to h)
theorem kid_get {t u : Tm} {x : Place} (hu : atP t x = some u) {k : Nat} (hk : k < u.ps.length) : ∃ v, u.ps[k]? = some v ∧ atP t (kid x k) = some v ∧ high v < high u := by
  refine ⟨u.ps[k], List.getElem?_eq_getElem hk, kid_at hu (List.getElem?_eq_getElem hk), ?_⟩
  obtain ⟨w, ns, ps⟩ := u
  rw [high]; exact Nat.lt_succ_of_le (high_mem (List.getElem_mem hk)).1
/-- from its in to its out a road leads -/
theorem in_out {c : Int} {t : Tm} (bk : Bk c t) : ∀ (n : Nat) (u : Tm) (x : Place), high u ≤ n → atP t x = some u → Reach (RO t) (true, x) (false, x) := by
  intro n
  induction n with
  | zero => intro u x h; obtain ⟨w, ns, ps⟩ := u; rw [high] at h; omega
  | succ n ih =>
    intro u x hh hu
    have mu := (atP_all hu).2.1 c bk.made
    have kd : ∀ {k : Nat}, k < u.ps.length → Reach (RO t) (true, kid x k) (false, kid x k) := fun {k} hk => by
      obtain ⟨v, _, h1, h2⟩ := kid_get hu hk
      exact ih v _ (by omega) h1
    have hp : partsN u.w u.ps.length = true := by cases u; exact mu.2.1
    cases hw : u.w with
    | set => exact .edge (.base hu (by rw [hw]; exact .inl rfl))
    | add => exact .edge (.base hu (by rw [hw]; exact .inl rfl))
    | copy => exact .edge (.base hu (by rw [hw]; exact .inl rfl))
    | wait => exact .edge (.base hu (by rw [hw]; exact .inl rfl))
    | lend => exact .edge (.base hu (by rw [hw]; exact .inr (.inl rfl)))
    | look =>
      rw [hw] at hp
      have h2 : u.ps.length = 2 := by simpa [partsN] using hp
      exact ((Reach.edge (.inn hu (k := 0) (by omega) (.inl rfl))).trans (kd (by omega))).snoc (.out hu (by omega) (by rw [hw]; simp))
    | both =>
      rw [hw] at hp
      have h2 : 2 ≤ u.ps.length ∧ u.ps.length ≤ 4 := by simpa [partsN] using hp
      exact ((Reach.edge (.inn hu (k := 0) (by omega) (.inl rfl))).trans (kd (by omega))).snoc (.out hu (by omega) (by rw [hw]; simp))
    | row =>
      by_cases h0 : u.ps.length = 0
      · exact .edge (.base hu (.inr (.inr ⟨hw, h0⟩)))
      · have ch : ∀ k, k < u.ps.length → Reach (RO t) (true, x) (false, kid x k) := fun k => by
          induction k with
          | zero => intro hk; exact (Reach.edge (.inn hu hk (.inl rfl))).trans (kd hk)
          | succ k ihk => intro hk; exact ((ihk (by omega)).snoc (.next hu hk hw)).trans (kd hk)
        exact (ch (u.ps.length - 1) (by omega)).snoc (.out hu (by omega) (.inr ⟨hw, rfl⟩))
theorem in_out0 {c : Int} {t u : Tm} (bk : Bk c t) {x : Place} (hu : atP t x = some u) : Reach (RO t) (true, x) (false, x) := in_out bk _ u x (Nat.le_refl _) hu
theorem row_fwd {c : Int} {t u : Tm} (bk : Bk c t) {x : Place} (hu : atP t x = some u) (hw : u.w = .row) {i : Nat} : ∀ (j : Nat), i < j → j < u.ps.length → Reach (RO t) (false, kid x i) (true, kid x j)
  | 0, h, _ => by omega
  | j + 1, h, hj => by
    by_cases e : i = j
    · subst e; exact .edge (.next hu hj hw)
    · obtain ⟨v, _, h1, _⟩ := kid_get hu (show j < u.ps.length by omega)
      exact ((row_fwd bk hu hw j (by omega) (by omega)).trans (in_out0 bk h1)).snoc (.next hu hj hw)
theorem row_end {c : Int} {t u : Tm} (bk : Bk c t) {x : Place} (hu : atP t x = some u) (hw : u.w = .row) {i : Nat} (hi : i < u.ps.length) : Reach (RO t) (false, kid x i) (false, x) := by
  have lst : EdgeK t (false, kid x (u.ps.length - 1)) (false, x) := .out hu (by omega) (.inr ⟨hw, rfl⟩)
  by_cases e : i = u.ps.length - 1
  · subst e; exact .edge lst
  · obtain ⟨v, _, h1, _⟩ := kid_get hu (show u.ps.length - 1 < u.ps.length by omega)
    exact ((row_fwd bk hu hw _ (by omega) (by omega)).trans (in_out0 bk h1)).snoc lst
theorem in_kid {c : Int} {t u : Tm} (bk : Bk c t) {x : Place} (hu : atP t x = some u) {j : Nat} (hj : j < u.ps.length) : Reach (RO t) (true, x) (true, kid x j) := by
  by_cases hw : j = 0 ∨ u.w ≠ .row
  · exact .edge (.inn hu hj hw)
  · have hr : u.w = .row := Decidable.byContradiction fun z => hw (.inr z)
    have h0 : j ≠ 0 := fun z => hw (.inl z)
    obtain ⟨v, _, h1, _⟩ := kid_get hu (show 0 < u.ps.length by omega)
    exact ((Reach.edge (.inn hu (k := 0) (by omega) (.inl rfl))).trans (in_out0 bk h1)).trans (row_fwd bk hu hr j (by omega) hj)
/-! the parts that looks go to -/
def Live (t : Tm) (f : Place → Int) (x : Place) : Prop := ∀ L k z u, x = L ++ k :: z → atP t L = some u → u.w = .look → f L = k
theorem Live.pre {t : Tm} {f : Place → Int} {r y : Place} (h : Live t f (r ++ y)) : Live t f r := fun L k z u e => h L k (z ++ y) u (by rw [e]; simp)
theorem Live.kid {t v : Tm} {f : Place → Int} {r : Place} {j : Int} (h : Live t f r) (hv : atP t r = some v) (hj : v.w = .look → f r = j) : Live t f (r ++ [j]) := fun L k z u e hu hw => by
  rcases List.eq_nil_or_concat z with rfl | ⟨z', y, rfl⟩
  · have e2 := List.append_inj' e rfl
    cases e2.1; cases e2.2
    rw [hu] at hv; cases hv
    exact hj hw
  · have e' : r ++ [j] = (L ++ k :: z') ++ [y] := by rw [e]; simp
    exact h L k z' u (List.append_inj' e' rfl).1 hu hw
theorem least {P : Nat → Prop} : ∀ n, P n → ∃ m, m ≤ n ∧ P m ∧ ∀ k, k < m → ¬ P k := by
  intro n
  induction n using Nat.strongRecOn with
  | ind n ih =>
    intro h
    by_cases z : ∃ k, k < n ∧ P k
    · obtain ⟨k, h1, h2⟩ := z
      obtain ⟨m, h3, h4, h5⟩ := ih k h1 h2
      exact ⟨m, by omega, h4, h5⟩
    · exact ⟨n, Nat.le_refl _, h, fun k h1 h2 => z ⟨k, h1, h2⟩⟩
/-- p is not done -/
structure Hlf (t : Tm) (f : Place → Int) (lk : Lk) (p : Place) : Prop where
  done : ∀ x k, lkF lk x = some k → Op t lk x
  arm : ∀ x k u, lkF lk x = some k → atP t x = some u → u.w = .look → f x = k
  np : lkF lk p = none
  lko : LkOk t lk
/-- nothing but p is open -/
structure Sat (t : Tm) (f : Place → Int) (lk : Lk) (p : Place) : Prop extends Hlf t f lk p where
  sat : ∀ x, Op t lk x → isDeed t x = true → lkF lk x = none → x = p
section
variable {c : Int} {t : Tm} {f : Place → Int} {lk : Lk} {p : Place}
theorem sat_in (bk : Bk c t) (S : Sat t f lk p) : ∀ (n : Nat) (x : Place), x.length = n → x ∈ placesIn t [] → Live t f x →
    (∀ c a b z, x = c ++ b :: z → a < b → c ++ [a] ∈ placesIn t [] → Live t f (c ++ [a]) → ¬ (Op t lk (c ++ [a]) ∧ ThrL t lk (c ++ [a]) = true) → Reach (RO t) (true, p) (false, c ++ [a])) → ¬ Op t lk x → Reach (RO t) (true, p) (true, x) := by
  intro n
  induction n with
  | zero =>
    intro x hn _ _ _ ho
    cases List.length_eq_zero_iff.mp hn
    exact absurd OS_nil ho
  | succ n ih =>
    intro x hn hx lv hy ho
    have hne : x ≠ [] := by intro e; rw [e] at hn; cases hn
    obtain ⟨r, j, rfl⟩ : ∃ r j, x = r ++ [j] := ⟨x.dropLast, x.getLast hne, (List.dropLast_concat_getLast hne).symm⟩
    obtain ⟨v', hv'⟩ := mem_places0.mp hx
    obtain ⟨v, hv, _⟩ := atP_split hv'
    obtain ⟨h0, hj⟩ := at_kid hv hx
    obtain ⟨j, rfl⟩ := Int.eq_ofNat_of_zero_le h0
    have hj : j < v.ps.length := by simpa using hj
    by_cases hr : Op t lk r
    · have hk : ¬ kidS t (lkF lk) (fun z => ThrL t lk z = true) r j := fun h => ho (OS_snoc.mpr ⟨hx, hr, h⟩)
      have hk : ¬ _ := fun h => hk ⟨v, hv, h⟩
      have dd : v.w.deed = true → lkF lk r = none → r = p := fun h1 h2 => S.sat r hr (by rw [isDeed_at hv]; exact h1) h2
      have lf : v.w.leaf = true → False := fun h => by
        have := ((atP_all hv).1 bk.made.ok)
        obtain ⟨w, ns, ps⟩ := v
        rw [this.2.1 h] at hj; cases hj
      cases hw : v.w <;> rw [hw] at hk <;> simp only [not_true_eq_false] at hk
      · exact (lf (by rw [hw]; rfl)).elim
      · exact (lf (by rw [hw]; rfl)).elim
      · exact (lf (by rw [hw]; rfl)).elim
      · cases hl : lkF lk r with
        | none =>
          have := dd (by rw [hw]; rfl) hl
          subst this
          exact in_kid bk hv hj
        | some k =>
          have h1 := S.arm r k v hl hv hw
          have h2 := lv r j [] v rfl hv hw
          rw [hl, ← h1, h2] at hk
          exact absurd rfl hk
      · obtain ⟨i, hi⟩ : ∃ i : Nat, i < j ∧ ¬ ThrL t lk (kid r i) = true := Classical.byContradiction fun z => hk fun i hi => Classical.byContradiction fun y => z ⟨i, by omega, y⟩
        obtain ⟨m, h1, ⟨h2, h3⟩, h4⟩ := least (P := fun i => i < j ∧ ¬ ThrL t lk (kid r i) = true) i hi
        have h5 : ∀ k, k < m → ThrL t lk (kid r k) = true := fun k hk => Classical.byContradiction fun y => h4 k hk ⟨by omega, y⟩
        have hin : kid r m ∈ placesIn t [] := lw_kid hv (by omega)
        have := hy r m j [] rfl (by omega) hin ((Live.pre lv).kid hv (by rw [hw]; exact fun e => nomatch e)) (fun z => h3 z.2)
        exact this.trans (row_fwd bk hv hw j h2 hj)
      · exact (lf (by rw [hw]; rfl)).elim
    · have h1 := ih r (by simpa using hn) (mem_places0.mpr ⟨v, hv⟩) (Live.pre lv) (fun c a b z e h1 h2 => hy c a b (z ++ [(j : Int)]) (by rw [e]; simp) h1 h2) hr
      exact h1.trans (in_kid bk hv hj)
theorem sat_out (bk : Bk c t) (S : Sat t f lk p) : ∀ (n : Nat) (x : Place), x ∈ placesIn t [] → rank t x < n → Live t f x → ¬ (Op t lk x ∧ ThrL t lk x = true) → Reach (RO t) (true, p) (false, x) := by
  intro n
  induction n with
  | zero => intro x _ h; omega
  | succ n ih =>
    intro x hx hr lv hn
    obtain ⟨u, hu⟩ := mem_places0.mp hx
    have low : ∀ {y : Place}, y ∈ placesIn t [] → postLt y x = true → Live t f y → ¬ (Op t lk y ∧ ThrL t lk y = true) → Reach (RO t) (true, p) (false, y) := fun {y} h1 h2 => ih y h1 (by have := rank_lt h1 h2; omega)
    by_cases ho : Op t lk x
    · have hT : ¬ ThrL t lk x = true := fun z => hn ⟨ho, z⟩
      have teq : ThrL t lk x = _ := Thr_eq (lk := lkF lk) (lnOk bk) hu
      rw [teq] at hT
      have dd : u.w.deed = true → lkF lk x = none → x = p := fun h1 h2 => S.sat x ho (by rw [isDeed_at hu]; exact h1) h2
      have kl : ∀ {k : Nat}, u.w ≠ .look → Live t f (kid x k) := fun {k} h => lv.kid hu fun z => absurd z h
      cases hw : u.w <;> rw [hw] at hT <;> simp only at hT
      · have := dd (by rw [hw]; rfl) (by cases z : lkF lk x with | none => rfl | some k => rw [z] at hT; exact absurd rfl hT)
        subst this; exact in_out0 bk hu
      · have := dd (by rw [hw]; rfl) (by cases z : lkF lk x with | none => rfl | some k => rw [z] at hT; exact absurd rfl hT)
        subst this; exact in_out0 bk hu
      · have := dd (by rw [hw]; rfl) (by cases z : lkF lk x with | none => rfl | some k => rw [z] at hT; exact absurd rfl hT)
        subst this; exact in_out0 bk hu
      · cases hk : lkF lk x with
        | none =>
          have := dd (by rw [hw]; rfl) hk
          subst this; exact in_out0 bk hu
        | some k =>
          rw [hk] at hT
          have hin := lw_lookk bk S.lko hu hw hk
          obtain ⟨h0, hj⟩ := at_kid hu hin
          have h1 := low hin (postLt_kid x k []) (lv.kid hu fun _ => S.arm x k u hk hu hw) (fun z => hT z.2)
          obtain ⟨j, rfl⟩ := Int.eq_ofNat_of_zero_le h0
          exact h1.snoc (.out (k := j) hu (by simpa using hj) (by rw [hw]; simp))
      · rw [List.all_eq_true] at hT
        obtain ⟨k, hk, hkT⟩ : ∃ k, k < u.ps.length ∧ ¬ ThrL t lk (kid x k) = true := Classical.byContradiction fun z => hT fun k hk => Classical.byContradiction fun y => z ⟨k, List.mem_range.mp hk, y⟩
        exact (low (lw_kid hu hk) (postLt_kid x k []) (kl (by rw [hw]; exact fun z => nomatch z)) (fun z => hkT z.2)).trans (row_end bk hu hw hk)
      · rw [List.all_eq_true] at hT
        obtain ⟨k, hk, hkT⟩ : ∃ k, k < u.ps.length ∧ ¬ ThrL t lk (kid x k) = true := Classical.byContradiction fun z => hT fun k hk => Classical.byContradiction fun y => z ⟨k, List.mem_range.mp hk, y⟩
        exact (low (lw_kid hu hk) (postLt_kid x k []) (kl (by rw [hw]; exact fun z => nomatch z)) (fun z => hkT z.2)).snoc (.out hu hk (by rw [hw]; simp))
      · exact absurd trivial hT
      · rw [List.all_eq_true] at hT
        obtain ⟨h, hh, hkT⟩ : ∃ h, h ∈ u.ns ∧ ¬ ThrL t lk (lentPl t h) = true := Classical.byContradiction fun z => hT fun h hh => Classical.byContradiction fun y => z ⟨h, hh, y⟩
        obtain ⟨h3, h4⟩ := lnOk bk x u h hu hw hh
        obtain ⟨r, i, j, q, z, v, e1, e2, e3, e4, e5, e6, e7⟩ := lent_row bk hu hw hh
        have l1 : Live t f r := Live.pre (y := (j : Int) :: q) (by rw [← e1]; exact lv)
        have l2 : Live t f (kid r i) := l1.kid e5 (by rw [e6]; exact fun z => nomatch z)
        have l3 : Live t f (lentPl t h) := by rw [e7]; exact l2.kid e3 (by rw [e4]; exact fun z => nomatch z)
        exact (low h3 h4 l3 (fun z => hkT z.2)).snoc (.wait hu hw hh)
    · exact (sat_in bk S _ x rfl hx lv (fun c' a b z e h1 h2 => low h2 (by rw [e]; exact postLt_left c' h1 [] z)) ho).trans (in_out0 bk hu)
/-! the other way: what is behind p stays -/
mutual
theorem waits_at : ∀ (t : Tm) (ar : List Int), Ok t → waits t ar = true → ∀ (q : Place) (u : Tm), atP t q = some u → ∃ ar', waits u ar' = true
  | .mk w ns ps, ar, ok, hw, q, u, hu => by
    cases q with
    | nil => rw [atP_nil] at hu; cases hu; exact ⟨ar, hw⟩
    | cons k q =>
      obtain ⟨hk, v, e1, e2⟩ := atP_cons hu
      rw [waits] at hw
      by_cases e : w = .wait
      · have e3 : ps = [] := ok.2.1 (by rw [e]; rfl)
        subst e3
        simp [Tm.ps] at e1
      · rw [if_neg e] at hw
        exact waitsL_at _ ps _ ok.2.2 hw k.toNat v e1 q u e2
theorem waitsL_at : ∀ (b : Bool) (ts : List Tm) (ar : List Int), OkL ts → waitsL b ts ar = true → ∀ (k : Nat) (v : Tm), ts[k]? = some v → ∀ (q : Place) (u : Tm), atP v q = some u → ∃ ar', waits u ar' = true
  | b, [], ar, ok, hw, k, v, e, q, u, hu => by simp at e
  | b, t :: r, ar, ok, hw, k, v, e, q, u, hu => by
    rw [waitsL, Bool.and_eq_true] at hw
    cases k with
    | zero => simp at e; subst e; exact waits_at t ar ok.1 hw.1 q u hu
    | succ k => simp at e; exact waitsL_at b r _ ok.2 hw.2 k v e q u hu
end
theorem waitsL_no : ∀ (ts : List Tm) (ar : List Int), waitsL false ts ar = true → ∀ v ∈ ts, waits v ar = true
  | [], _, _, v, h => nomatch h
  | t :: r, ar, hw, v, h => by
    rw [waitsL, Bool.and_eq_true] at hw
    simp at hw
    rcases List.mem_cons.mp h with rfl | h
    · exact hw.1
    · exact waitsL_no r ar hw.2 v h
theorem wait_look (bk : Bk c t) {u v : Tm} {x L z : Place} {k h : Int} (hv : atP t x = some v) (hvw : v.w = .wait) (hh : h ∈ v.ns) (e : x = L ++ k :: z) (hu : atP t L = some u) (hw : u.w = .look) : ∃ z', lentPl t h = L ++ k :: z' := by
  subst e
  obtain ⟨u', h1, h2⟩ := atP_split hv
  rw [hu] at h1; cases h1
  obtain ⟨hk, y, e1, e2⟩ := atP_cons h2
  obtain ⟨ar, har⟩ := waits_at t [] bk.made.ok bk.waits L u hu
  have hy : waits y [] = true := by
    obtain ⟨w, ns, ps⟩ := u
    cases (show w = .look from hw)
    rw [waits] at har
    simp at har
    exact waitsL_no ps [] har y (List.mem_of_getElem? e1)
  have oy : Ok y := by
    have := ((atP_all hu).1 bk.made.ok)
    obtain ⟨w, ns, ps⟩ := u
    exact ok_mem this.2.2 y (List.mem_of_getElem? e1)
  rcases waits_row y [] oy hy z v e2 hvw h hh with z' | ⟨r, i, j, q, v', g1, g2, g3, g4, g5, _⟩
  · cases z'
  · have hat : atP t (L ++ k :: kid r i) = some v' := atP_app hu (by rw [atP, if_pos hk, e1]; exact g3)
    obtain ⟨a, y', rfl⟩ := lend_shape ((atP_all hat).2.1 c bk.made) g4
    have hx : h = a := by simpa [Tm.ns] using g5
    subst hx
    have hin : (h, kid (L ++ k :: kid r i) 0) ∈ lentM t := by
      refine List.mem_filterMap.mpr ⟨L ++ k :: kid r i, mem_places0.mpr ⟨_, hat⟩, ?_⟩
      unfold lendAt; rw [hat]; rfl
    exact ⟨kid (kid r i) 0, by rw [lentPl_uniq bk hin]; simp [kid]⟩
/-- into a look one comes by its in alone -/
theorem enter (bk : Bk c t) {q r : Pt} (e : EdgeK t q r) {L z : Place} {k : Int} {u : Tm} (hr : r.2 = L ++ k :: z) (hu : atP t L = some u) (hw : u.w = .look) : (∃ z', q.2 = L ++ k :: z') ∨ q = (true, L) := by
  have sp : ∀ {x : Place} {j : Nat}, kid x j = L ++ k :: z → (x = L ∧ k = (j : Int)) ∨ ∃ z', x = L ++ k :: z' := fun {x j} h => by
    rcases List.eq_nil_or_concat z with rfl | ⟨z', y, rfl⟩
    · have e2 := List.append_inj' (show x ++ [(j : Int)] = L ++ [k] from h) rfl
      cases e2.2
      exact .inl ⟨e2.1, rfl⟩
    · have e' : x ++ [(j : Int)] = (L ++ k :: z') ++ [y] := by rw [show x ++ [(j : Int)] = L ++ k :: (z' ++ [y]) by unfold kid at h; simpa using h]; simp
      exact .inr ⟨z', (List.append_inj' e' rfl).1⟩
  cases e with
  | base hx hc => exact .inl ⟨z, hr⟩
  | wait hx hwt hh => exact .inl (wait_look bk hx hwt hh hr hu hw)
  | inn hx hk hc =>
    rcases sp hr with ⟨rfl, _⟩ | ⟨z', rfl⟩
    · exact .inr rfl
    · exact .inl ⟨z', rfl⟩
  | next hx hk hrw =>
    rcases sp hr with ⟨rfl, _⟩ | ⟨z', rfl⟩
    · rw [hx] at hu; cases hu; rw [hrw] at hw; cases hw
    · exact .inl ⟨_, by simp [kid]; rfl⟩
  | out hx hk hc =>
    have hr : _ = L ++ k :: z := hr
    subst hr
    exact .inl ⟨_, by simp [kid]; rfl⟩
def hap (t : Tm) (lk : Lk) (y : Pt) : Prop := Op t lk y.2 ∧ (y.1 = false → ThrL t lk y.2 = true)
def Blk (t : Tm) (lk : Lk) (p : Place) (y : Pt) : Prop := (y = (true, p) ∨ ¬ hap t lk y) ∧ ∀ L k z u, y.2 = L ++ k :: z → atP t L = some u → u.w = .look → (¬ ∃ z', p = L ++ k :: z') → L = p ∨ ¬ Op t lk L
theorem thr_row {u : Tm} {x : Place} {k : Nat} (bk : Bk c t) (hu : atP t x = some u) (hw : u.w = .row ∨ u.w = .both) (hT : ThrL t lk x = true) (hk : k < u.ps.length) : ThrL t lk (kid x k) = true := by
  have teq : ThrL t lk x = _ := Thr_eq (lk := lkF lk) (lnOk bk) hu
  rw [teq] at hT
  rcases hw with hw | hw <;> (rw [hw] at hT; simp only [List.all_eq_true] at hT; exact hT k (List.mem_range.mpr hk))
theorem blk_step (bk : Bk c t) (S : Hlf t f lk p) (dp : isDeed t p = true) (lp : Live t f p) {q r : Pt} (e : EdgeK t q r) (B : Blk t lk p q) : Blk t lk p r := by
  refine ⟨.inr ?_, fun L k z u hr hu hw hn => ?_⟩
  · rintro ⟨h1, h2⟩
    obtain ⟨u0, hu0, hd0⟩ : ∃ u, atP t p = some u ∧ u.w.deed = true := by
      unfold isDeed at dp
      cases z : atP t p with
      | none => rw [z] at dp; cases dp
      | some u => rw [z] at dp; exact ⟨u, rfl, dp⟩
    -- the one ahead had to be there, or is p's in
    have out : ∀ {x : Place}, q = (false, x) → Op t lk x → ThrL t lk x = true → False := fun {x} e h3 h4 => by
      subst e
      rcases B.1 with z | z
      · cases z
      · exact z ⟨h3, fun _ => h4⟩
    have inn : ∀ {x : Place}, q = (true, x) → Op t lk x → x = p := fun {x} e h3 => by
      subst e
      rcases B.1 with z | z
      · cases z; rfl
      · exact absurd ⟨h3, fun z => nomatch z⟩ z
    cases e with
    | base hx hc =>
      have := inn rfl h1
      subst this
      rw [hx] at hu0; cases hu0
      have h3 := h2 rfl
      have teq : ThrL t lk _ = _ := Thr_eq (lk := lkF lk) (lnOk bk) hx
      rw [teq] at h3
      have := S.np
      revert h3 hc hd0
      cases hw : u0.w <;> simp [Wd.leaf, Wd.deed, this]
    | wait hx hwt hh =>
      have h3 := h2 rfl
      have teq : ThrL t lk _ = _ := Thr_eq (lk := lkF lk) (lnOk bk) hx
      rw [teq, hwt] at h3
      simp only [List.all_eq_true] at h3
      exact out rfl (lent_open bk hx hwt hh h1) (h3 _ hh)
    | inn hx hk hc =>
      obtain ⟨_, h4, v, hv, h5⟩ := OS_snoc.mp (show Op t lk (_ ++ [_]) from h1)
      have := inn rfl h4
      subst this
      rw [hx] at hu0; cases hu0
      rw [hx] at hv; cases hv
      have := S.np
      revert h5 hd0 hc
      cases hw : u0.w <;> simp [Wd.deed, this]
    | @next x u k hx hk hw =>
      obtain ⟨_, h4, v, hv, h5⟩ := OS_snoc.mp (show Op t lk (x ++ [((k + 1 : Nat) : Int)]) from h1)
      rw [hx] at hv; cases hv
      rw [hw] at h5
      exact out rfl (OS_snoc.mpr ⟨lw_kid hx (by omega), h4, _, hx, by rw [hw]; exact fun i hi => h5 i (by omega)⟩) (h5 k (by omega))
    | @out x u k hx hk hc =>
      have h3 := h2 rfl
      have hopk : (u.w = .both ∨ u.w = .row) → Op t lk (kid x k) := fun h => OS_snoc.mpr ⟨lw_kid hx hk, h1, u, hx, by
        rcases h with h | h
        · rw [h]; trivial
        · rw [h]; exact fun i hi => thr_row bk hx (.inl h) h3 (by omega)⟩
      rcases hc with (hw | hw) | ⟨hw, _⟩
      · exact out rfl (hopk (.inl hw)) (thr_row bk hx (.inr hw) h3 hk)
      · have teq : ThrL t lk x = _ := Thr_eq (lk := lkF lk) (lnOk bk) hx
        rw [teq, hw] at h3
        cases hl : lkF lk x with
        | none => rw [hl] at h3; cases h3
        | some j =>
          rw [hl] at h3
          have h3 : ThrL t lk (x ++ [j]) = true := h3
          have hin := lw_lookk bk S.lko hx hw hl
          by_cases e : (k : Int) = j
          · subst e
            exact out rfl (OS_snoc.mpr ⟨hin, h1, u, hx, by rw [hw]; exact hl⟩) h3
          · by_cases hp : ∃ z', p = x ++ (k : Int) :: z'
            · obtain ⟨z', rfl⟩ := hp
              have g1 := lp x k z' u rfl hx hw
              have g2 := S.arm x j u hl hx hw
              exact e (g1.symm.trans g2)
            · rcases B.2 x k [] u rfl hx hw hp with g | g
              · subst g; rw [S.np] at hl; cases hl
              · exact g h1
      · exact out rfl (hopk (.inr hw)) (thr_row bk hx (.inl hw) h3 hk)
  · rcases enter bk e hr hu hw with ⟨z', h1⟩ | h1
    · exact B.2 L k z' u h1 hu hw hn
    · subst h1
      rcases B.1 with g | g
      · cases g; exact .inl rfl
      · exact .inr fun h => g ⟨h, fun z => nomatch z⟩
theorem blk_all (bk : Bk c t) (S : Hlf t f lk p) (dp : isDeed t p = true) (lp : Live t f p) {y : Pt} (h : Reach (RO t) (true, p) y) : Blk t lk p y := by
  induction h with
  | refl => exact ⟨.inl rfl, fun L k z u e _ _ hn => absurd ⟨z, e⟩ hn⟩
  | step _ hr ih => exact blk_step bk S dp lp (edgeK_of hr) ih
/-- what is not done without p is just what p comes before -/
theorem without_iff (bk : Bk c t) (S : Sat t f lk p) (dp : isDeed t p = true) (lp : Live t f p) {q : Place} (dq : isDeed t q = true) (lq : Live t f q) (hn : q ≠ p) : lkF lk q = none ↔ Reach (RO t) (true, p) (true, q) := by
  obtain ⟨u, hu, _⟩ := deed_places dq
  constructor
  · intro h
    have ho : ¬ Op t lk q := fun ho => hn (S.sat q ho dq h)
    exact sat_in bk S _ q rfl (mem_places0.mpr ⟨u, hu⟩) lq (fun c a b z e h1 h2 lv hno => sat_out bk S _ _ h2 (Nat.lt_succ_self _) lv hno) ho
  · intro h
    have B := blk_all bk S.toHlf dp lp h
    rcases B.1 with z | z
    · cases z; exact absurd rfl hn
    · cases hl : lkF lk q with
      | none => rfl
      | some k => exact absurd ⟨S.done q k hl, fun z => nomatch z⟩ z
end

/-! no two apart -/
def Cons (t : Tm) (xs : List Place) : Prop := ∀ x ∈ xs, ∀ y ∈ xs, ∀ (L : Place) (k k' : Int) (z z' : Place) (u : Tm), x = L ++ k :: z → y = L ++ k' :: z' → atP t L = some u → u.w = .look → k = k'
theorem Cons.sub {t : Tm} {xs ys : List Place} (h : Cons t xs) (hs : ∀ y ∈ ys, y ∈ xs) : Cons t ys := fun x hx y hy => h x (hs x hx) y (hs y hy)
theorem Cons.apart {t : Tm} {xs : List Place} (h : Cons t xs) {p q : Place} (hp : p ∈ xs) (hq : q ∈ xs) : apartB t p q = false := by
  unfold apartB
  split
  · rfl
  · rename_i hc
    have hlt : cpl p q < min p.length q.length := by have := cpl_le p q; omega
    have hne := cpl_ne p q hlt
    have l1 : cpl p q < p.length := by omega
    have l2 : cpl p q < q.length := by omega
    have e1 : p = p.take (cpl p q) ++ p[cpl p q] :: p.drop (cpl p q + 1) := by rw [← List.drop_eq_getElem_cons l1]; exact (List.take_append_drop _ _).symm
    have e2 : q = p.take (cpl p q) ++ q[cpl p q] :: q.drop (cpl p q + 1) := by rw [← List.drop_eq_getElem_cons l2, cpl_take]; exact (List.take_append_drop _ _).symm
    cases hu : atP t (p.take (cpl p q)) with
    | none => rfl
    | some u =>
      simp only
      rw [decide_eq_false_iff_not]
      intro hw
      have := h p hp q hq _ _ _ _ _ u e1 e2 hu hw
      rw [List.getElem?_eq_getElem l1, List.getElem?_eq_getElem l2, this] at hne
      exact hne rfl
theorem branch {x y L p z z' a b : Place} {k k' i j : Int} (e1 : x = L ++ k :: z) (e2 : y = L ++ k' :: z') (e3 : x = p ++ i :: a) (e4 : y = p ++ j :: b) (hk : k ≠ k') (hi : i ≠ j) : L = p := by
  induction L generalizing x y p with
  | nil =>
    cases p with
    | nil => rfl
    | cons w p => rw [e1] at e3; rw [e2] at e4; simp at e3 e4; exact absurd (e3.1.trans e4.1.symm) hk
  | cons l L ih =>
    cases p with
    | nil => rw [e1] at e3; rw [e2] at e4; simp at e3 e4; exact absurd (e3.1.symm.trans e4.1) hi
    | cons w p =>
      rw [e1] at e3; rw [e2] at e4
      simp at e3 e4
      rw [e3.1, ih rfl rfl e3.2 e4.2]
theorem Cons.join {t : Tm} {xs ys : List Place} (h1 : Cons t xs) (h2 : Cons t ys) (h : ∀ x ∈ xs, ∀ y ∈ ys, ∃ (p : Place) (v : Tm) (i j : Int) (a b : Place), atP t p = some v ∧ v.w ≠ .look ∧ x = p ++ i :: a ∧ y = p ++ j :: b ∧ i ≠ j) : Cons t (xs ++ ys) := by
  have mix : ∀ x ∈ xs, ∀ y ∈ ys, ∀ (L : Place) (k k' : Int) (z z' : Place) (u : Tm), x = L ++ k :: z → y = L ++ k' :: z' → atP t L = some u → u.w = .look → k = k' := fun x hx y hy L k k' z z' u e1 e2 hu hw => by
    obtain ⟨p, v, i, j, a, b, hv, hvw, e3, e4, hij⟩ := h x hx y hy
    refine Classical.byContradiction fun hk => ?_
    have := branch e1 e2 e3 e4 hk hij
    subst this
    rw [hu] at hv; cases hv
    exact hvw hw
  intro x hx y hy L k k' z z' u e1 e2 hu hw
  rcases List.mem_append.mp hx with hx | hx <;> rcases List.mem_append.mp hy with hy | hy
  · exact h1 x hx y hy L k k' z z' u e1 e2 hu hw
  · exact mix x hx y hy L k k' z z' u e1 e2 hu hw
  · exact (mix y hy x hx L k' k z' z u e2 e1 hu hw).symm
  · exact h2 x hx y hy L k k' z z' u e1 e2 hu hw
theorem app_inj {L : Place} {k k' : Int} {z z' : Place} (h : L ++ k :: z = L ++ k' :: z') : k = k' := by
  have := List.append_cancel_left h
  exact (List.cons.inj this).1
theorem Cons.cons {t : Tm} {xs : List Place} {p : Place} (h1 : Cons t xs) (h : ∀ x ∈ xs, ∃ q, x = p ++ q) : Cons t (p :: xs) := by
  have mix : ∀ x ∈ xs, ∀ (L : Place) (k k' : Int) (z z' : Place), p = L ++ k :: z → x = L ++ k' :: z' → k = k' := fun x hx L k k' z z' e1 e2 => by
    obtain ⟨q, e3⟩ := h x hx
    rw [e1, e2, List.append_assoc] at e3
    exact (app_inj e3).symm
  intro x hx y hy L k k' z z' u e1 e2 hu hw
  rcases List.mem_cons.mp hx with hx | hx <;> rcases List.mem_cons.mp hy with hy | hy
  · exact app_inj (e1.symm.trans ((hx.trans hy.symm).trans e2))
  · exact mix y hy L k k' z z' (hx.symm.trans e1) e2
  · exact (mix x hx L k' k z' z (hy.symm.trans e2) e1).symm
  · exact h1 x hx y hy L k k' z z' u e1 e2 hu hw
/-- what is opened goes where looks went -/
theorem cons_open {t : Tm} {lk : Lk} {xs : List Place} (h : ∀ x ∈ xs, Op t lk x) : Cons t xs := fun x hx y hy L k k' z z' u e1 e2 hu hw => by
  obtain ⟨v, hv, h1⟩ := (h x hx).2 L k z e1
  obtain ⟨v', hv', h2⟩ := (h y hy).2 L k' z' e2
  rw [hu] at hv hv'; cases hv; cases hv'
  rw [hw] at h1 h2
  exact Option.some.inj (h1.symm.trans h2)
/-- some: deeds, rising, no two apart -/
structure SomeOk (t : Tm) (xs : List Place) : Prop where
  deed : ∀ x ∈ xs, isDeed t x = true
  lt : xs.Pairwise (· < ·)
  cons : Cons t xs
theorem SomeOk.filter {t : Tm} {xs : List Place} (h : SomeOk t xs) (f : Place → Bool) : SomeOk t (xs.filter f) :=
  ⟨fun x hx => h.deed x (List.mem_filter.mp hx).1, h.lt.filter f, h.cons.sub fun y hy => (List.mem_filter.mp hy).1⟩
theorem SomeOk.sublist {t : Tm} {xs ys : List Place} (h : SomeOk t xs) (s : ys.Sublist xs) : SomeOk t ys :=
  ⟨fun x hx => h.deed x (s.subset hx), h.lt.sublist s, h.cons.sub fun y hy => s.subset hy⟩
theorem SomeOk.nodup {t : Tm} {xs : List Place} (h : SomeOk t xs) : xs.Nodup := h.lt.imp fun h e => absurd (e ▸ h) (List.lt_irrefl _)
theorem SomeOk.ins {t : Tm} {xs : List Place} (h : SomeOk t xs) : ∀ x ∈ xs, x ∈ placesIn t [] := fun x hx => by
  obtain ⟨u, hu, _⟩ := deed_places (h.deed x hx)
  exact mem_places0.mpr ⟨u, hu⟩
theorem SomeOk.len {c : Int} {t : Tm} (bk : Bk c t) {xs : List Place} (h : SomeOk t xs) : xs.length ≤ 60 := by
  have := nodup_len h.nodup h.ins
  rw [placesIn_length] at this
  exact Nat.le_trans this bk.size

/-- as it goes without p -/
structure InvW (t : Tm) (f : Place → Int) (lk : Lk) (p : Place) : Prop where
  nd : (lk.map (·.1)).Nodup
  done : ∀ x k, lkF lk x = some k → Op t lk x
  ins : ∀ x ∈ lk, isDeed t x.1 = true
  arm : ∀ x k, lkF lk x = some k → f x = k
  np : lkF lk p = none
  lko : LkOk t lk
theorem InvW.nil (t : Tm) (f : Place → Int) (p : Place) : InvW t f [] p := ⟨List.nodup_nil, fun x k h => (nomatch h), fun x h => (nomatch h), fun x k h => (nomatch h), rfl, fun x h => (nomatch h)⟩
theorem InvW.add {c : Int} {t : Tm} (bk : Bk c t) {f : Place → Int} {lk : Lk} {p : Place} (I : InvW t f lk p) {x : Place} (ho : Op t lk x) (hd : isDeed t x = true) (hn : lkF lk x = none) (hp : x ≠ p) (hf : ∀ u, atP t x = some u → u.w = .look → f x = 0 ∨ f x = 1) : InvW t f (lk ++ [(x, f x)]) p := by
  have ex := ext_add lk x (f x)
  have lk1 : ∀ y k, lkF (lk ++ [(x, f x)]) y = some k → lkF lk y = some k ∨ (y = x ∧ k = f x) := fun y k h => by
    rw [lkF_add] at h
    cases z : lkF lk y with
    | some j => rw [z] at h; exact .inl h
    | none =>
      rw [z] at h
      by_cases e : x = y
      · rw [if_pos e] at h; cases h; exact .inr ⟨e.symm, rfl⟩
      · rw [if_neg e] at h; cases h
  refine ⟨?_, fun y k h => ?_, fun y hy => ?_, fun y k h => ?_, ?_, fun y hy u hu hw => ?_⟩
  · rw [List.map_append, List.nodup_append]
    refine ⟨I.nd, by simp, fun a ha b hb e => ?_⟩
    simp at hb; rw [e, hb] at ha
    exact assoc_none hn ha
  · rcases lk1 y k h with h1 | ⟨rfl, _⟩
    · exact op_mono bk I.lko ex (I.done y k h1)
    · exact op_mono bk I.lko ex ho
  · rcases List.mem_append.mp hy with h | h
    · exact I.ins y h
    · simp at h; rw [h]; exact hd
  · rcases lk1 y k h with h1 | ⟨rfl, h1⟩
    · exact I.arm y k h1
    · exact h1.symm
  · rw [lkF_add, I.np, if_neg hp]; rfl
  · rcases List.mem_append.mp hy with h | h
    · exact I.lko y h u hu hw
    · simp at h; rw [h]; rw [h] at hu; exact hf u hu hw
theorem InvW.len {t : Tm} {f : Place → Int} {lk : Lk} {p : Place} (I : InvW t f lk p) : lk.length ≤ size t := by
  have := nodup_len I.nd (ys := placesIn t []) fun x hx => by
    obtain ⟨y, hy, rfl⟩ := List.mem_map.mp hx
    obtain ⟨u, hu, _⟩ := deed_places (I.ins y hy)
    exact mem_places0.mpr ⟨u, hu⟩
  rw [List.length_map, placesIn_length] at this; exact this
theorem InvW.sat {t : Tm} {f : Place → Int} {lk : Lk} {p : Place} (I : InvW t f lk p) (h : ∀ x ∈ opnL t lk t [], x = p) : Sat t f lk p :=
  ⟨⟨I.done, fun x k u h _ _ => I.arm x k h, I.np, I.lko⟩, fun x h1 h2 h3 => h x (opnL_iff.mpr ⟨h1, h2, h3⟩)⟩
/-- the arms of some -/
structure ArmsOk (xs : List Place) (m : Lk) : Prop where
  of : ∀ L k, assoc m L = some k → ∃ x ∈ xs, ∃ z, x = L ++ k :: z
  to : ∀ x ∈ xs, ∀ L k z, x = L ++ k :: z → (assoc m L).isSome = true
def armF (m : Lk) (x : Place) : Int := (assoc m x).getD 0
theorem ArmsOk.live {t : Tm} {xs : List Place} {m : Lk} (A : ArmsOk xs m) (h : Cons t xs) {x : Place} (hx : x ∈ xs) : Live t (armF m) x := fun L k z u e hu hw => by
  obtain ⟨j, hj⟩ := Option.isSome_iff_exists.mp (A.to x hx L k z e)
  obtain ⟨y, hy, z', e'⟩ := A.of L j hj
  unfold armF; rw [hj]
  exact h y hy x hx L j k z' z u e' e hu hw
theorem ArmsOk.arm {c : Int} {t : Tm} (bk : Bk c t) {xs : List Place} {m : Lk} (A : ArmsOk xs m) (hx : ∀ x ∈ xs, x ∈ placesIn t []) {L : Place} {u : Tm} (hu : atP t L = some u) (hw : u.w = .look) : armF m L = 0 ∨ armF m L = 1 := by
  unfold armF
  cases h : assoc m L with
  | none => exact .inl rfl
  | some k =>
    obtain ⟨x, h1, z, e⟩ := A.of L k h
    obtain ⟨v, hv⟩ := mem_places0.mp (hx x h1)
    rw [e] at hv
    obtain ⟨u', h2, h3⟩ := atP_split hv
    rw [hu] at h2; cases h2
    obtain ⟨hk, y, e1, _⟩ := atP_cons h3
    have mu := (atP_all hu).2.1 c bk.made
    have h4 : u.ps.length = 2 := by
      obtain ⟨w, ns, ps⟩ := u
      cases (show w = .look from hw)
      simpa [partsN, Tm.ps] using mu.2.1
    have h5 := (List.getElem?_eq_some_iff.mp e1).1
    show k = 0 ∨ k = 1
    omega
/-- what is behind, by doing all but one -/
theorem behind_iff {c : Int} {t : Tm} (bk : Bk c t) {xs : List Place} (S : SomeOk t xs) {m lk : Lk} (A : ArmsOk xs m) {p q : Place} (hp : p ∈ xs) (hq : q ∈ xs) (T : Sat t (armF m) lk p) : (q ≠ p ∧ lkF lk q = none) ↔ Bef t (RO t) p q := by
  unfold Bef
  constructor
  · rintro ⟨h1, h2⟩
    exact ⟨Ne.symm h1, S.cons.apart hp hq, (without_iff bk T (S.deed p hp) (A.live S.cons hp) (S.deed q hq) (A.live S.cons hq) h1).mp h2⟩
  · rintro ⟨h1, _, h2⟩
    exact ⟨Ne.symm h1, (without_iff bk T (S.deed p hp) (A.live S.cons hp) (S.deed q hq) (A.live S.cons hq) (Ne.symm h1)).mpr h2⟩

/-! weaves in which looks go as they like, one deed put off -/
structure FW (t : Tm) (off : Place) (aims : List Place) (lk : Lk) : Prop where
  nd : (lk.map (·.1)).Nodup
  ins : ∀ x ∈ lk, isDeed t x.1 = true
  lko : LkOk t lk
  aim : ∀ x ∈ lk, ∀ u, atP t x.1 = some u → u.w = .look → ∀ a ∈ aims, ∀ j z, a = x.1 ++ j :: z → x.2 = j
  pre : ∀ l0 r, lk = l0 ++ r → ∀ x k, lkF l0 x = some k → Op t l0 x
  off : ∀ l0 k r, lk = l0 ++ (off, k) :: r → ∀ x ∈ opnL t l0 t [], x = off
theorem FW.nil (t : Tm) (off : Place) (aims : List Place) : FW t off aims [] :=
  ⟨List.nodup_nil, fun x h => (nomatch h), fun x h => (nomatch h), fun x h => (nomatch h), fun l0 r e x k h => (by
    have : l0 = [] := by cases l0 with | nil => rfl | cons a b => cases e
    subst this; cases h), fun l0 k r e => (by cases l0 <;> cases e)⟩
theorem FW.add {c : Int} {t : Tm} (bk : Bk c t) {off : Place} {aims : List Place} {lk : Lk} (F : FW t off aims lk) {x : Place} {v : Int} (hx : x ∈ opnL t lk t []) (hv : ∀ u, atP t x = some u → u.w = .look → v = 0 ∨ v = 1) (ha : ∀ u, atP t x = some u → u.w = .look → ∀ a ∈ aims, ∀ j z, a = x ++ j :: z → v = j) (ho : x = off → ∀ y ∈ opnL t lk t [], y = off) : FW t off aims (lk ++ [(x, v)]) := by
  obtain ⟨hop, hd, hn⟩ := opnL_iff.mp hx
  have snoc : ∀ {α : Type} {l0 r : List α} {a : List α} {y : α}, a ++ [y] = l0 ++ r → (r = [] ∧ l0 = a ++ [y]) ∨ ∃ r', r = r' ++ [y] ∧ a = l0 ++ r' := fun {α l0 r a y} e => by
    rcases List.eq_nil_or_concat r with rfl | ⟨r', z, rfl⟩
    · exact .inl ⟨rfl, by simpa using e.symm⟩
    · rw [List.concat_eq_append, ← List.append_assoc] at e
      have e2 := List.append_inj' e rfl
      have : y = z := by simpa using e2.2
      exact .inr ⟨r', by rw [this, List.concat_eq_append], e2.1⟩
  refine ⟨?_, fun y hy => ?_, fun y hy u hu hw => ?_, fun y hy u hu hw => ?_, fun l0 r e y k hk => ?_, fun l0 k r e y hy => ?_⟩
  · rw [List.map_append, List.nodup_append]
    refine ⟨F.nd, by simp, fun a ha b hb e => ?_⟩
    simp at hb; rw [e, hb] at ha
    exact assoc_none hn ha
  · rcases List.mem_append.mp hy with h | h
    · exact F.ins y h
    · simp at h; rw [h]; exact hd
  · rcases List.mem_append.mp hy with h | h
    · exact F.lko y h u hu hw
    · simp at h; rw [h]; rw [h] at hu; exact hv u hu hw
  · rcases List.mem_append.mp hy with h | h
    · exact F.aim y h u hu hw
    · simp at h; subst h; exact ha u hu hw
  · rcases snoc e with ⟨rfl, rfl⟩ | ⟨r', rfl, e2⟩
    · rw [lkF_add] at hk
      have ex := ext_add lk x v
      cases z : lkF lk y with
      | some j => exact op_mono bk F.lko ex (F.pre lk [] (by simp) y j z)
      | none =>
        rw [z] at hk
        by_cases e : x = y
        · subst e; exact op_mono bk F.lko ex hop
        · rw [if_neg e] at hk; cases hk
    · exact F.pre l0 r' e2 y k hk
  · rcases snoc e with ⟨h, _⟩ | ⟨r', h, e2⟩
    · cases h
    · cases r' with
      | nil =>
        rw [List.append_nil] at e2
        simp at h
        subst e2
        exact ho h.1.1.symm y hy
      | cons z r'' =>
        rw [List.cons_append] at h
        obtain ⟨h1, h2⟩ := List.cons.inj h
        subst h1
        exact F.off l0 k r'' e2 y hy
theorem FW.len {c : Int} {t : Tm} (bk : Bk c t) {off : Place} {aims : List Place} {lk : Lk} (F : FW t off aims lk) : lk.length ≤ 60 := by
  have := nodup_len F.nd (ys := placesIn t []) fun x hx => by
    obtain ⟨y, hy, rfl⟩ := List.mem_map.mp hx
    obtain ⟨u, hu, _⟩ := deed_places (F.ins y hy)
    exact mem_places0.mpr ⟨u, hu⟩
  rw [List.length_map, placesIn_length] at this
  exact Nat.le_trans this bk.size
theorem reach_out {c : Int} {t : Tm} (bk : Bk c t) {a y : Pt} (h : Reach (RO t) a y) (ha : a.2 ∉ placesIn t []) : y = a := by
  induction h with
  | refl => rfl
  | step _ hr ih =>
    subst ih
    have := (edgesL_in bk (outs_mem.mp hr)).1
    exact absurd this ha
/-- where nothing is open all aims are done -/
theorem FW.all {c : Int} {t : Tm} (bk : Bk c t) {off : Place} {aims : List Place} {lk : Lk} (F : FW t off aims lk) (h0 : opnL t lk t [] = []) {a : Place} (ha : a ∈ aims) (hd : isDeed t a = true) : a ∈ lk.map (·.1) := by
  refine Classical.byContradiction fun hno => ?_
  have hn : lkF lk a = none := assoc_none_of hno
  have hbad : ([-1] : Place) ∉ placesIn t [] := fun h => by
    obtain ⟨u, hu⟩ := mem_places0.mp h
    have := (atP_cons hu).1
    omega
  obtain ⟨u, hu, _⟩ := deed_places hd
  have hain : a ∈ placesIn t [] := mem_places0.mpr ⟨u, hu⟩
  let f : Place → Int := fun x => (lkF lk x).getD (a.getD x.length 0)
  have S : Sat t f lk [-1] := by
    refine ⟨⟨F.pre lk [] (by simp), fun x k u h _ _ => by show (lkF lk x).getD _ = k; rw [h]; rfl, ?_, F.lko⟩, fun x h1 h2 h3 => ?_⟩
    · exact assoc_none_of fun h => by
        obtain ⟨y, hy, e⟩ := List.mem_map.mp h
        obtain ⟨v, hv, _⟩ := deed_places (F.ins y hy)
        rw [e] at hv
        exact hbad (mem_places0.mpr ⟨v, hv⟩)
    · have := opnL_iff.mpr ⟨h1, h2, h3⟩
      rw [h0] at this; cases this
  have lv : Live t f a := fun L k z v e hv hw => by
    show (lkF lk L).getD (a.getD L.length 0) = k
    cases hk : lkF lk L with
    | some j => exact F.aim (L, j) (assoc_mem hk) v hv hw a ha k z e
    | none => rw [e]; simp
  have ho : ¬ Op t lk a := fun ho => by
    have := opnL_iff.mpr ⟨ho, hd, hn⟩
    rw [h0] at this; cases this
  have := sat_in bk S _ a rfl hain lv (fun c a b z e h1 h2 lv hno => sat_out bk S _ _ h2 (Nat.lt_succ_self _) lv hno) ho
  have e := reach_out bk this hbad
  rw [(Prod.mk.inj e).2] at hain
  exact hbad hain
theorem idx_split {lk : Lk} {p : Place} (h : p ∈ lk.map (·.1)) : ∃ l0 k r, lk = l0 ++ (p, k) :: r ∧ p ∉ l0.map (·.1) ∧ (lk.map (·.1)).idxOf p = l0.length := by
  induction lk with
  | nil => cases h
  | cons y r ih =>
    by_cases e : y.1 = p
    · exact ⟨[], y.2, r, by rw [← e]; rfl, by simp, by rw [List.map_cons, e, List.idxOf_cons_self]; rfl⟩
    · have h' : p ∈ r.map (·.1) := by
        rcases List.mem_cons.mp h with z | z
        · exact absurd z.symm e
        · exact z
      obtain ⟨l0, k, r', e1, e2, e3⟩ := ih h'
      refine ⟨y :: l0, k, r', by rw [e1]; rfl, ?_, ?_⟩
      · rw [List.map_cons, List.mem_cons]
        rintro (z | z)
        · exact e z.symm
        · exact e2 z
      · rw [List.map_cons, List.idxOf_cons, e3, show (y.1 == p) = false by simpa using e]; rfl
theorem idx_lt {lk l0 r : Lk} {p q : Place} {k : Int} (e : lk = l0 ++ (p, k) :: r) (hp : p ∉ l0.map (·.1)) (hq : q ∈ lk.map (·.1)) (hne : q ≠ p) : (lk.map (·.1)).idxOf p < (lk.map (·.1)).idxOf q ↔ q ∉ l0.map (·.1) := by
  have h1 : (lk.map (·.1)).idxOf p = l0.length := by
    rw [e, List.map_append, List.idxOf_append, if_neg hp, List.map_cons, List.idxOf_cons_self]; simp
  rw [h1, e, List.map_append, List.idxOf_append]
  by_cases hm : q ∈ l0.map (·.1)
  · rw [if_pos hm]
    have := List.idxOf_lt_length_of_mem hm
    rw [List.length_map] at this
    exact ⟨fun h => by omega, fun h => absurd hm h⟩
  · rw [if_neg hm, List.map_cons, List.idxOf_cons, List.length_map]
    have : ((p, k).1 == q) = false := by simpa using Ne.symm hne
    rw [this]; simp only [cond_false]
    exact ⟨fun _ => hm, fun _ => by omega⟩
theorem ext_app (l0 r : Lk) : Ext l0 (l0 ++ r) := fun x k h => by unfold lkF at h ⊢; rw [assoc_append, h]; rfl
theorem FW.live {t : Tm} {off : Place} {aims : List Place} {lk : Lk} (F : FW t off aims lk) {p : Place} (hp : p ∈ lk.map (·.1)) : Live t (fun x => (lkF lk x).getD 0) p := fun L k z u e hu hw => by
  obtain ⟨v, hv⟩ := assoc_some hp
  obtain ⟨w, hw1, hw2⟩ := (F.pre lk [] (by simp) p v hv).2 L k z e
  rw [hu] at hw1; cases hw1
  rw [hw] at hw2
  show (lkF lk L).getD 0 = k
  rw [hw2]; rfl
theorem FW.half {t : Tm} {off : Place} {aims : List Place} {lk l0 r : Lk} (F : FW t off aims lk) {p : Place} (e : lk = l0 ++ r) (hp : p ∉ l0.map (·.1)) : Hlf t (fun x => (lkF lk x).getD 0) l0 p :=
  ⟨F.pre l0 r e, fun x k u h _ _ => by
    show (lkF lk x).getD 0 = k
    rw [e, ext_app l0 r x k h]; rfl, assoc_none_of hp, fun x hx => F.lko x (by rw [e]; exact List.mem_append.mpr (.inl hx))⟩
/-- one that comes before another one is done first -/
theorem FW.first {c : Int} {t : Tm} (bk : Bk c t) {off : Place} {aims : List Place} {lk : Lk} (F : FW t off aims lk) {p q : Place} (hp : p ∈ lk.map (·.1)) (hq : q ∈ lk.map (·.1)) (h : Bef t (RO t) p q) : (lk.map (·.1)).idxOf p < (lk.map (·.1)).idxOf q := by
  obtain ⟨h1, _, h3⟩ := h
  obtain ⟨l0, k, r, e, hn, _⟩ := idx_split hp
  rw [idx_lt e hn hq (Ne.symm h1)]
  intro hq0
  obtain ⟨y, hy, e2⟩ := List.mem_map.mp hp
  have dp : isDeed t p = true := by rw [← e2]; exact F.ins y hy
  have H := F.half e hn
  have B := blk_all bk H dp (F.live hp) h3
  obtain ⟨j, hj⟩ := assoc_some hq0
  rcases B.1 with z | z
  · cases z; exact h1 rfl
  · exact z ⟨H.done q j hj, fun z => nomatch z⟩
/-- put off, it is done first just where it comes before -/
theorem FW.put {c : Int} {t : Tm} (bk : Bk c t) {aims : List Place} {lk : Lk} {p q : Place} (F : FW t p aims lk) (hp : p ∈ lk.map (·.1)) (hq : q ∈ lk.map (·.1)) (hne : p ≠ q) (hap : apartB t p q = false) : (lk.map (·.1)).idxOf p < (lk.map (·.1)).idxOf q ↔ Bef t (RO t) p q := by
  refine ⟨fun h => ⟨hne, hap, ?_⟩, F.first bk hp hq⟩
  obtain ⟨l0, k, r, e, hn, _⟩ := idx_split hp
  rw [idx_lt e hn hq (Ne.symm hne)] at h
  have deed : ∀ x, x ∈ lk.map (·.1) → isDeed t x = true := fun x hx => by
    obtain ⟨y, hy, e2⟩ := List.mem_map.mp hx
    rw [← e2]; exact F.ins y hy
  have S : Sat t (fun x => (lkF lk x).getD 0) l0 p := ⟨F.half e hn, fun x h1 h2 h3 => F.off l0 k r e x (opnL_iff.mpr ⟨h1, h2, h3⟩)⟩
  exact (without_iff bk S (deed p hp) (F.live hp) (deed q hq) (F.live hq) (Ne.symm hne)).mp (assoc_none_of h)

structure NowF (st : Sto) (a : Addr) (t : Tm) (lk : Lk) (l m ln : Addr) : Prop where
  ex : ∃ kvs, st a = some (.dck kvs) ∧ kvs.length ≤ 10 ∧ lookK kvs (.inr "looked") = some (.ref l) ∧ lookK kvs (.inr "memo") = some (.ref m) ∧ lookK kvs (.inr "body") = some (enc t) ∧ lookK kvs (.inr "lent") = some (.ref ln)
  lok : st l = some (.dic (dmap plEnc DV.int lk))
  len : st ln = some (.dck (lentD (lentM t)))
  mem : ∃ mm, st m = some (.dic (dmap plEnc DV.bl mm)) ∧ MemoOk t lk mm
  ne : l ≠ m
  ne1 : a ≠ ln
theorem NowF.toR {st : Sto} {a : Addr} {t : Tm} {lk : Lk} {l m ln : Addr} (N : NowF st a t lk l m ln) : NowR st a t lk l m ln := by
  obtain ⟨kvs, h1, _, h2, h3, h4, h5⟩ := N.ex
  exact ⟨⟨kvs, h1, h2, h3, h4, h5⟩, N.lok, N.len, N.ne⟩
theorem NowF.sub {st s : Sto} {a : Addr} {t : Tm} {lk : Lk} {l m ln : Addr} (N : NowF st a t lk l m ln) (h : Sub st s) : NowF s a t lk l m ln := by
  obtain ⟨kvs, h1, h2⟩ := N.ex
  obtain ⟨mm, h3, h4⟩ := N.mem
  exact ⟨⟨kvs, h _ _ h1, h2⟩, h _ _ N.lok, h _ _ N.len, ⟨mm, h _ _ h3, h4⟩, N.ne, N.ne1⟩
theorem NowF.memo {st : Sto} {a : Addr} {t : Tm} {lk : Lk} {l m ln : Addr} (N : NowF st a t lk l m ln) {mx : List (Place × Bool)} (hx : MemoOk t lk mx) : NowF (put st m (.dic (dmap plEnc DV.bl mx))) a t lk l m ln := by
  obtain ⟨kvs, h1, h2⟩ := N.ex
  obtain ⟨mm, h3, h4⟩ := N.mem
  have nd : ∀ {x : Addr} {ox : Ob}, st x = some ox → ox ≠ .dic (dmap plEnc DV.bl mm) → x ≠ m := fun h1 h2 e => by subst e; rw [h3] at h1; cases h1; exact h2 rfl
  exact ⟨⟨kvs, by rw [put_ne (nd h1 (by simp))]; exact h1, h2⟩, by rw [put_ne N.ne]; exact N.lok, by rw [put_ne (nd N.len (by simp))]; exact N.len, ⟨mx, put_same, hx⟩, N.ne, N.ne1⟩

def Tp (st : Sto) (a : Addr) : Prop := ∃ n : Int, st a = some (.lst [.int n])
theorem Tp.put {st : Sto} {a b : Addr} {o : Ob} (h : Tp st a) (hb : st b = none) : Tp (put st b o) a := let ⟨n, e⟩ := h; ⟨n, new_some e hb⟩
theorem Tp.sub {st s : Sto} {a : Addr} (h : Tp st a) (hs : Sub st s) : Tp s a := let ⟨n, e⟩ := h; ⟨n, hs _ _ e⟩
theorem kp_tape {a : Addr} {st s : Sto} (h : Kp (fun e => e = a) st s) (tp : Tp s a) {g : Addr} (hg : s g = none) : st g = none :=
  kp_none h hg fun e => by obtain ⟨n, z⟩ := tp; rw [← e, hg] at z; cases z
theorem Cons.pre {t : Tm} {xs ys : List Place} (h1 : Cons t xs) (h2 : Cons t ys) (h : ∀ x ∈ xs, ∀ y ∈ ys, ∃ q, y = x ++ q) : Cons t (xs ++ ys) := by
  have mix : ∀ x ∈ xs, ∀ y ∈ ys, ∀ (L : Place) (k k' : Int) (z z' : Place), x = L ++ k :: z → y = L ++ k' :: z' → k = k' := fun x hx y hy L k k' z z' e1 e2 => by
    obtain ⟨q, e3⟩ := h x hx y hy
    rw [e1, e2, List.append_assoc] at e3
    exact (app_inj e3).symm
  intro x hx y hy L k k' z z' u e1 e2 hu hw
  rcases List.mem_append.mp hx with hx | hx <;> rcases List.mem_append.mp hy with hy | hy
  · exact h1 x hx y hy L k k' z z' u e1 e2 hu hw
  · exact mix x hx y hy L k k' z z' e1 e2
  · exact (mix y hy x hx L k' k z' z e2 e1).symm
  · exact h2 x hx y hy L k k' z z' u e1 e2 hu hw

--@DICT _law_free_weave now
--@NDICT _law_free_weave {};now['looked']
theorem assocPut_last {lk : Lk} {x : Place} {v v' : Int} (h : lkF lk x = none) : assocPut (lk ++ [(x, v)]) x v' = lk ++ [(x, v')] := by
  unfold assocPut
  have h1 : assoc (lk ++ [(x, v)]) x = some v := by rw [assoc_append, show assoc lk x = none from h, assoc_cons, if_pos rfl]; rfl
  rw [h1]
  simp only [Option.isSome_some, if_true]
  rw [List.map_append]
  congr 1
  · have : ∀ y ∈ lk, (if y.1 = x then (y.1, v') else y) = y := fun y hy => by
      rw [if_neg]
      rintro rfl
      exact assoc_none h (List.mem_map.mpr ⟨y, hy, rfl⟩)
    rw [List.map_congr_left this, List.map_id']
  · simp
abbrev s__law_free_weave : Stmt := (topS 27)
abbrev N__law_free_weave : List Str := ["tape", "body", "off", "aims", "now", "found", "some", "rest", "place", "one"]
theorem sc__law_free_weave : FnScope N__law_free_weave ["tape", "body", "off", "aims"] (defScope s__law_free_weave) := ⟨rfl, rfl, rfl, by decide +kernel, rfl, by decide +kernel, by decide +kernel⟩
def sp__law_free_weave : DSp := fun ds st Q _ => ∃ c a t off am aims, ds = [.ref a, enc t, encP off, .ref am] ∧ Tp st a ∧ Bk c t ∧ lstAt st am = some (aims.map encP) ∧ (∀ x ∈ aims, isDeed t x = true) ∧ Cons t aims ∧ aims.length ≤ 10 ∧
  ∀ f lk st', st f = none → Kp (fun e => e = a) st st' → Tp st' a → st' f = some (.lst ((lk.map (·.1)).map encP)) → FW t off aims lk → opnL t lk t [] = [] → Q (.ref f) st'
theorem cal__law_free_weave (D : Def K mg "_law_free_weave" s__law_free_weave ["tape", "body", "off", "aims"]) (b_len : mg "len" = none) (C__law_lent : Cal P w K mg base 15 "_law_lent" ["body"] sp__law_lent) (C__law_open : Cal P w K mg base 135 "_law_open" ["now", "place"] sp__law_open) (C__law_digit : Cal P w K mg base 1 "_law_digit" ["tape", "many"] spDigit) : Cal P w K mg base 136 "_law_free_weave" ["tape", "body", "off", "aims"] sp__law_free_weave := by
  refine cal_ok D sc__law_free_weave (fun f cdv A outer s0 H E hr => (dss_cons (ds_set 4 sc__law_free_weave.nd (de_ddisp (dps_cons de_str (de_var 1) (dps_cons de_str de_nnew (dps_cons de_str de_nnew (dps_cons de_str (de_c C__law_lent hr (passes_call (takes_of rfl rfl rfl rfl) (fun _ _ _ _ h => h)) (da_cons (de_var 1) da_nil)) dps_nil))))))
      (dss_cons (ds_set 5 sc__law_free_weave.nd (de_lst da_nil))
      (dss_cons (ds_set 6 sc__law_free_weave.nd (de_c C__law_open hr (passes_call (takes_of rfl rfl rfl rfl) (fun _ _ _ _ h => h)) (da_cons (de_var 4) (da_cons (de_tup da_nil) da_nil))))
      (dss_cons (ds_while (passes_of rfl) (dt_cmp (op_neU hr.units) dop_ne (de_var 6) (de_lst da_nil) (nomark _)) (dss_cons (ds_setLc 7 (own := [("place", 8)]) rfl sc__law_free_weave.nd (di_seq (de_var 6)) (blkOk_by (N := N__law_free_weave) (own := [("place", 8)]) (sc := defScope s__law_free_weave) (by decide +kernel)) (fun _ _ _ _ _ => (dgw_name 8 sc__law_free_weave.nd)) (fun _ _ _ _ _ => (dts_one (dt_cmp (op_neU hr.units) dop_ne (de_var 8) (de_var 2) (nomark _)))) (fun _ _ _ _ _ => (de_var 8)) (sw_true rfl rfl rfl (by decide +kernel)))
      (dss_cons (ds_set 8 sc__law_free_weave.nd (de_var 2))
      (dss_cons (ds_if (dt_cmp (op_neU hr.units) dop_ne (de_var 7) (de_lst da_nil) (nomark _)) (dss_one (ds_set 8 sc__law_free_weave.nd (de_ix (de_var 7) (de_c C__law_digit hr (passes_call (takes_of rfl rfl rfl rfl) (fun _ _ _ _ h => h)) (da_cons (de_var 0) (da_cons (de_b call_len dc_len b_len PySem.boot_len (da_cons (de_var 7) da_nil)) da_nil))) (fun _ _ => rfl)))) dss_nil)
      (dss_cons (ds_expr (de_lm PySem.F.slot_list_append PySem.F.type_list_append mt_append dm_append (de_var 5) (da_cons (de_var 8) da_nil)))
      (dss_cons (ds_asg de_nnew (dg_sub (set_k (units65 hr)) dset_k (de_var 4) de_str))
      (dss_cons (ds_asg (de_c C__law_digit hr (passes_call (takes_of rfl rfl rfl rfl) (fun _ _ _ _ h => h)) (da_cons (de_var 0) (da_cons de_int da_nil))) (dg_sub (set_nest (units65 hr)) dset_nest (de_dget (hu_of hr) (de_var 4) de_str) (de_var 8)))
      (dss_cons (ds_for (passes_of rfl) rfl (di_seq (de_var 3)) (dg_name 9 sc__law_free_weave.nd) (dss_one (ds_if (dw_dt (dw_and (dt_cmp (op_eqU hr.units) dop_eq (de_slice sl_U dsl_U (de_var 9) do_none (do_some (de_b call_len dc_len b_len PySem.boot_len (da_cons (de_var 8) da_nil)))) (de_var 8) (nomark _)) (dw_and1 (dt_cmp op_gt (dop_cmp _) (de_b call_len dc_len b_len PySem.boot_len (da_cons (de_var 9) da_nil)) (de_b call_len dc_len b_len PySem.boot_len (da_cons (de_var 8) da_nil)) (nomark _))))) (dss_one (ds_asg (de_ix (de_var 9) (de_b call_len dc_len b_len PySem.boot_len (da_cons (de_var 8) da_nil)) (fun _ _ => rfl)) (dg_sub (set_nest (units65 hr)) dset_nest (de_dget (hu_of hr) (de_var 4) de_str) (de_var 8)))) dss_nil)))
      (dss_one (ds_set 6 sc__law_free_weave.nd (de_c C__law_open hr (passes_call (takes_of rfl rfl rfl rfl) (fun _ _ _ _ h => h)) (da_cons (de_var 4) (da_cons (de_tup da_nil) da_nil)))))))))))))
      (dss_one (ds_ret (de_var 5)))))))) ?_
  rintro _ st Q W ⟨c, ta, t, off, am, aims, rfl, tp0, bk, eam, hda, hco, hal, q⟩
  refine ⟨rfl, ?_⟩
  have hsz := bk.size
  obtain ⟨oam, hoam⟩ := lstAt_some eam
  erw [True.intro]
  intro l h1 m h2
  refine ⟨c, t, rfl, bk, fun ln h3 => ⟨⟨by decide, by decide +kernel⟩, fun a h4 => ⟨small (by decide), fun fo h5 => ⟨small (by decide), ?_⟩⟩⟩⟩
  have f1 := put_same (st := st) (a := l) (o := .dic [])
  have sub1 : Sub st (put st l (.dic [])) := Sub.new h1
  have z2 := sub1.none h2
  generalize put st l (.dic []) = s1 at *
  have f2 := put_same (st := s1) (a := m) (o := .dic [])
  have nlm := ne_some f1 h2
  have f1 := new_some (o := .dic []) f1 h2
  have sub2 := sub1.put (o := .dic []) h2
  generalize put s1 m (.dic []) = s2 at *
  have f3 := put_same (st := s2) (a := ln) (o := .dck (lentD (lentM t)))
  have f1 := new_some (o := .dck (lentD (lentM t))) f1 h3
  have f2 := new_some (o := .dck (lentD (lentM t))) f2 h3
  have sub3 := sub2.put (o := .dck (lentD (lentM t))) h3
  generalize put s2 ln (.dck (lentD (lentM t))) = s3 at *
  have z4 := sub3.none h4
  have nal : a ≠ ln := (ne_some f3 h4).symm
  generalize hkv : ([(Sum.inr (Str.ofString "body"), enc t), (Sum.inr (Str.ofString "looked"), DV.ref l), (Sum.inr (Str.ofString "memo"), DV.ref m), (Sum.inr (Str.ofString "lent"), DV.ref ln)] : List (Key × DV)) = kvs at *
  have f4 := put_same (st := s3) (a := a) (o := .dck kvs)
  have f1 := new_some (o := .dck kvs) f1 h4
  have f2 := new_some (o := .dck kvs) f2 h4
  have f3 := new_some (o := .dck kvs) f3 h4
  have sub4 := sub3.put (o := .dck kvs) h4
  generalize put s3 a (.dck kvs) = s4 at *
  have zfo := sub4.none h5
  have nfl : fo ≠ l := (ne_some f1 h5).symm
  have f1 := new_some (o := .lst []) f1 h5
  have f2 := new_some (o := .lst []) f2 h5
  have f3 := new_some (o := .lst []) f3 h5
  have f4 := new_some (o := .lst []) f4 h5
  have f5 := put_same (st := s4) (a := fo) (o := .lst [])
  have sub5 := sub4.put (o := .lst []) h5
  generalize put s4 fo (.lst []) = s5 at *
  have N0 : NowF s5 a t [] l m ln := by
    refine ⟨⟨kvs, f4, by rw [← hkv]; simp, ?_, ?_, ?_, ?_⟩, f1, f3, ⟨[], f2, List.nodup_nil, fun x h => (nomatch h)⟩, nlm, nal⟩
    · rw [← hkv, lk_cons, if_neg (by decide +kernel), lk_cons, if_pos rfl]
    · rw [← hkv, lk_cons, if_neg (by decide +kernel), lk_cons, if_neg (by decide +kernel), lk_cons, if_pos rfl]
    · rw [← hkv, lk_cons, if_pos rfl]
    · rw [← hkv, lk_cons, if_neg (by decide +kernel), lk_cons, if_neg (by decide +kernel), lk_cons, if_neg (by decide +kernel), lk_cons, if_pos rfl]
  obtain ⟨mm, em, mok⟩ := N0.mem
  refine ⟨c, t, a, [], l, m, ln, mm, rfl, bk, N0.toR, fun x h => (nomatch h), em, mok, fun so mx hso hmx => ?_⟩
  have nms := ne_some em hso
  have hso' : put s5 m (.dic (dmap plEnc DV.bl mx)) so = none := by rw [put_ne nms.symm]; exact hso
  have N1 := (N0.memo hmx).sub (Sub.new (o := .lst ((opnL t [] t []).map encP)) hso')
  have sub6 := (sub5.chg (o := .dic (dmap plEnc DV.bl mx)) z2).put (o := .lst ((opnL t [] t []).map encP)) hso'
  have nfm : fo ≠ m := ne_ob f5 em (by simp)
  have f6 : put (put s5 m (.dic (dmap plEnc DV.bl mx))) so (.lst ((opnL t [] t []).map encP)) fo = some (.lst []) := by rw [put_ne (ne_some f5 hso), put_ne nfm]; exact f5
  have nfs : fo ≠ so := ne_some f5 hso
  have eso := put_same (st := put s5 m (.dic (dmap plEnc DV.bl mx))) (a := so) (o := .lst ((opnL t [] t []).map encP))
  generalize put (put s5 m (.dic (dmap plEnc DV.bl mx))) so (.lst ((opnL t [] t []).map encP)) = s6 at *
  have nta : ta ≠ a := by obtain ⟨n, e⟩ := tp0; exact ne_some e z4
  have ntl : ta ≠ l := by obtain ⟨n, e⟩ := tp0; exact ne_some e h1
  have ntf : ta ≠ fo := by obtain ⟨n, e⟩ := tp0; exact ne_some e zfo
  erw [True.intro]
  refine ⟨fun k ρ s => ∃ lk m so x6 x8 x9, ρ = [some (.ref ta), some (enc t), some (encP off), some (.ref am), some (.ref a), some (.ref fo), some (.ref so), x6, x8, x9] ∧ k = 60 - lk.length ∧ Kp (fun e => e = ta) st s ∧ Tp s ta ∧ NowF s a t lk l m ln ∧ st m = none ∧ m ≠ ta ∧ s fo = some (.lst ((lk.map (·.1)).map encP)) ∧ fo ≠ so ∧ s so = some (.lst ((opnL t lk t []).map encP)) ∧ FW t off aims lk,
    ⟨_, [], m, so, none, none, none, rfl, rfl, sub6.kp _, tp0.sub sub6, N1, z2, (by obtain ⟨n, e⟩ := tp0; exact (ne_some e z2).symm), f6, nfs, eso, .nil t off aims⟩, ?_⟩
  rintro k ρ s ⟨lk, m, so, x6, x8, x9, rfl, rfl, kp, tp, N, zm, nmt, efo, nfs, eso, F⟩
  have hlk := F.len bk
  have hol : (opnL t lk t []).length ≤ 60 := by
    have nd : (opnL t lk t []).Nodup := (opn_lt t []).imp fun h e => absurd (e ▸ h) (List.lt_irrefl _)
    have : (opnL t lk t []).length ≤ (placesIn t []).length := nodup_len nd fun x hx => (opnL_iff.mp hx).1.1
    rw [placesIn_length] at this; omega
  have hpin : ∀ x ∈ aims, x ∈ placesIn t [] := fun x hx => by obtain ⟨u, hu, _⟩ := deed_places (hda x hx); exact mem_places0.mpr ⟨u, hu⟩
  have hpl : ∀ x ∈ placesIn t [], x.length ≤ 20 := fun x hx => by
    obtain ⟨u, hu⟩ := mem_places0.mp hx
    have := (atP_all hu).2.2.1
    have := bk.high
    omega
  have keepst : ∀ {s' : Sto}, Kp (fun e => e = ta) st s' → lstAt s' am = some (aims.map encP) := fun {s'} kp => kp.lstAt (fun z => by
    obtain ⟨n, e⟩ := tp0
    rw [z, lstAt_lst e] at eam
    have h2 := Option.some.inj eam
    cases aims with
    | nil => cases h2
    | cons p2 r2 => simp [encP] at h2) eam
  rwa [True.intro]
  refine ⟨small (by decide), fun p0 hp0 => ⟨(opnL t lk t []).isEmpty, eqIs_lists (lstAt_new (lstAt_lst eso) hp0) lstAt_same (plains_encP _) rfl (Nat.le_trans (deeps_encP _) (by decide)) (by rw [deeps]; decide) (by cases opnL t lk t [] <;> simp), ?_⟩⟩
  have kp1 := kp.put (o := .lst []) (.inr hp0)
  have tp1 := tp.put (o := .lst []) hp0
  have N1 := N.sub (Sub.new (o := .lst []) hp0)
  have efo1 := new_some (o := .lst []) efo hp0
  have eso1 := new_some (o := .lst []) eso hp0
  generalize put s p0 (.lst []) = s1 at *
  by_cases hemp : opnL t lk t [] = []
  · rw [if_neg (by rw [hemp]; simp)]
    erw [True.intro]
    exact Rt.of (q fo lk _ zfo kp1 tp1 efo1 F hemp)
  rw [if_pos (by cases z : opnL t lk t [] with | nil => exact absurd z hemp | cons a b => rfl)]
  have zso : st so = none ∨ True := .inr trivial
  -- what is taken
  refine seq_by (fun ρ s => ∃ re, ρ = [some (.ref ta), some (enc t), some (encP off), some (.ref am), some (.ref a), some (.ref fo), some (.ref so), some (.ref re), x8, x9] ∧ Sub s1 s ∧ s re = some (.lst (((opnL t lk t []).filter fun x => decide (x ≠ off)).map encP))) (fun Nn hN => ?_) ?_
  · rwa [mLc, lstAt_lst eso1]
    refine ⟨small (by rw [List.length_map]; omega), ?_⟩
    rw [lockS_one eso1]
    refine lcL_pureM encP (fun x => if (decide (x ≠ off)) = true then some (encP x) else none) _ _ (fun x hx R hR => ?_) ?_
    · unfold stepC
      erw [wipeD, encP]
      refine ⟨_, eqIs_pl x off, ?_⟩
      by_cases e : x = off
      · rw [if_neg (by simp [e])] at hR
        erw [e, decide_true, Bool.not_true]
        exact hR
      · rw [if_pos (by simp [e])] at hR
        erw [e, decide_false, Bool.not_false]
        exact hR
    rw [unlockS_one eso1, put_put, put_id eso1, filterMap_if, List.nil_append]
    intro re hre
    exact hN _ _ ⟨re, rfl, Sub.new hre, put_same⟩
  rintro _ s2 ⟨re, rfl, sub2, ere⟩
  generalize hH : (opnL t lk t []).filter (fun x => decide (x ≠ off)) = H at *
  have hHm : ∀ x ∈ H, x ∈ opnL t lk t [] ∧ x ≠ off := fun x hx => by
    rw [← hH] at hx
    obtain ⟨h1, h2⟩ := List.mem_filter.mp hx
    exact ⟨h1, of_decide_eq_true h2⟩
  have hHl : H.length ≤ 60 := by rw [← hH]; exact Nat.le_trans (List.length_filter_le _ _) hol
  refine seq_by (fun ρ s => ρ = [some (.ref ta), some (enc t), some (encP off), some (.ref am), some (.ref a), some (.ref fo), some (.ref so), some (.ref re), some (encP off), x9] ∧ s2 = s) (fun Nn hN => ?_) ?_
  · rwa [True.intro]
    exact hN _ _ ⟨rfl, rfl⟩
  rintro _ _ ⟨rfl, rfl⟩
  have kp2 := kp1.trans (sub2.kp _)
  have tp2 := tp1.sub sub2
  have N2 := N1.sub sub2
  have efo2 := sub2 _ _ efo1
  refine seq_by (fun ρ s => ∃ x, ρ = [some (.ref ta), some (enc t), some (encP off), some (.ref am), some (.ref a), some (.ref fo), some (.ref so), some (.ref re), some (encP x), x9] ∧ x ∈ opnL t lk t [] ∧ (x = off → ∀ y ∈ opnL t lk t [], y = off) ∧ Kp (fun e => e = ta) st s ∧ Tp s ta ∧ NowF s a t lk l m ln ∧ s fo = some (.lst ((lk.map (·.1)).map encP))) (fun Nn hN => ?_) ?_
  · rwa [True.intro]
    refine ⟨small (by decide), fun p1 hp1 => ⟨H.isEmpty, eqIs_lists (lstAt_new (lstAt_lst ere) hp1) lstAt_same (plains_encP _) rfl (Nat.le_trans (deeps_encP _) (by decide)) (by rw [deeps]; decide) (by cases H <;> simp), ?_⟩⟩
    have kp3 := kp2.put (o := .lst []) (.inr hp1)
    obtain ⟨n3, en3⟩ := tp2.put (o := .lst []) hp1
    have N3 := N2.sub (Sub.new (o := .lst []) hp1)
    have efo3 := new_some (o := .lst []) efo2 hp1
    have ere3 := new_some (o := .lst []) ere hp1
    generalize put s2 p1 (.lst []) = s3 at *
    by_cases hHe : H = []
    · rw [if_neg (by rw [hHe]; simp)]
      have all : ∀ y ∈ opnL t lk t [], y = off := fun y hy => Classical.byContradiction fun hne => by
        have : y ∈ H := by rw [← hH]; exact List.mem_filter.mpr ⟨hy, by simpa using hne⟩
        rw [hHe] at this; cases this
      obtain ⟨y, hy⟩ := List.exists_mem_of_ne_nil _ hemp
      exact hN _ _ ⟨off, rfl, by rw [← all y hy]; exact hy, fun _ => all, kp3, ⟨n3, en3⟩, N3, efo3⟩
    · rw [if_pos (by cases H with | nil => exact absurd rfl hHe | cons a b => rfl)]
      have hH0 : 0 < H.length := List.length_pos_iff.mpr hHe
      rwa [lstAt_lst ere3, List.length_map]
      refine ⟨ta, n3, H.length, rfl, en3, by omega, by omega, fun d m0 d0 d1 => ?_⟩
      have nret : re ≠ ta := fun z => by
        rw [z, en3] at ere3
        have h2 := Ob.lst.inj (Option.some.inj ere3)
        cases H with
        | nil => cases h2
        | cons p2 r2 => simp [encP] at h2
      obtain ⟨x, hxm, hx1, hx2⟩ := atI_mapI (f := encP) (xs := H) d0 d1
      rwa [lstAt_put nret, lstAt_lst ere3, hx2]
      have ndif : ∀ {y : Addr} {o : Ob}, s3 y = some o → y ≠ ta → put s3 ta (.lst [.int m0]) y = some o := fun h ne => by rw [put_ne ne]; exact h
      obtain ⟨kvs3, e3, r3⟩ := N3.ex
      obtain ⟨mm3, em3, mok3⟩ := N3.mem
      have N4 : NowF (put s3 ta (.lst [.int m0])) a t lk l m ln := ⟨⟨kvs3, ndif e3 nta.symm, r3⟩, ndif N3.lok ntl.symm, ndif N3.len (ne_ob N3.len en3 (by simp)), ⟨mm3, ndif em3 nmt, mok3⟩, N3.ne, N3.ne1⟩
      exact hN _ _ ⟨x, rfl, (hHm x hxm).1, fun z => absurd z (hHm x hxm).2, kp3.put (.inl rfl), ⟨m0, put_same⟩, N4, ndif efo3 ntf.symm⟩
  rintro _ s4 ⟨x, rfl, hx, hoff, kp4, ⟨n4, en4⟩, N4, efo4⟩
  obtain ⟨hop, hxd, hxn⟩ := opnL_iff.mp hx
  obtain ⟨kvs, ea, hkl, k1, k2, k3, k4⟩ := N4.ex
  have nfa : fo ≠ a := ne_ob efo4 ea (by simp)
  erw [efo4]
  have hfl : (lk.map (·.1)).map encP ++ [encP x] = ((lk ++ [(x, (0 : Int))]).map (·.1)).map encP := by simp
  rw [hfl]
  have efo5 := put_same (st := s4) (a := fo) (o := .lst (((lk ++ [(x, (0 : Int))]).map (·.1)).map encP))
  have ea5 := (put_ne nfa.symm (o := .lst (((lk ++ [(x, (0 : Int))]).map (·.1)).map encP))).trans ea
  have lok5 := (put_ne nfl.symm (o := .lst (((lk ++ [(x, (0 : Int))]).map (·.1)).map encP))).trans N4.lok
  have len5 := (put_ne (ne_ob N4.len efo4 (by simp)) (o := .lst (((lk ++ [(x, (0 : Int))]).map (·.1)).map encP))).trans N4.len
  have en5 := (put_ne ntf (o := .lst (((lk ++ [(x, (0 : Int))]).map (·.1)).map encP))).trans en4
  have kp5 : Kp (fun e => e = ta ∨ e = fo) st (put s4 fo (.lst (((lk ++ [(x, (0 : Int))]).map (·.1)).map encP))) := (kp4.weak fun e he => .inl he).put (.inl (.inr rfl))
  generalize put s4 fo (.lst (((lk ++ [(x, (0 : Int))]).map (·.1)).map encP)) = s5 at *
  refine ⟨smallL (by rw [List.length_map, List.length_map]; omega), fun m' hm' => ?_⟩
  have ea6 := new_some (o := .dic []) ea5 hm'
  have lok6 := new_some (o := .dic []) lok5 hm'
  have len6 := new_some (o := .dic []) len5 hm'
  have em6 := put_same (st := s5) (a := m') (o := .dic [])
  have efo6 := new_some (o := .dic []) efo5 hm'
  have en6 := new_some (o := .dic []) en5 hm'
  have kp6 := kp5.put (o := .dic []) (.inr hm')
  have nlm' : l ≠ m' := ne_some lok5 hm'
  have nmt' : m' ≠ ta := (ne_some en5 hm').symm
  have zm' : st m' = none := kp_none kp5 hm' fun e => by
    rcases e with e | e
    · exact absurd e nmt'
    · rw [e]; exact zfo
  generalize put s5 m' (.dic []) = s6 at *
  erw [ea6]
  refine ⟨small (by omega), ?_⟩
  have ea7 := put_same (st := s6) (a := a) (o := .dck (putKD kvs (.inr (Str.ofString "memo")) (.ref m')))
  have pn : ∀ {y : Addr} {o : Ob}, s6 y = some o → y ≠ a → put s6 a (.dck (putKD kvs (.inr (Str.ofString "memo")) (.ref m'))) y = some o := fun h ne => by rw [put_ne ne]; exact h
  have lok7 := pn lok6 (ne_ob lok6 ea6 (by simp))
  have len7 := pn len6 N4.ne1.symm
  have em7 := pn em6 (ne_ob em6 ea6 (by simp))
  have efo7 := pn efo6 nfa
  have en7 := pn en6 nta
  have kp7 : Kp (fun e => e = ta ∨ e = fo) st (put s6 a (.dck (putKD kvs (.inr (Str.ofString "memo")) (.ref m')))) := fun e o he hF => pn (kp6 e o he hF) (ne_some he z4)
  generalize put s6 a (.dck (putKD kvs (.inr (Str.ofString "memo")) (.ref m'))) = s7 at *
  have pk : ∀ k : Key, lookK (putKD kvs (.inr (Str.ofString "memo")) (.ref m')) k = if Sum.inr (Str.ofString "memo") = k then some (.ref m') else lookK kvs k := fun k => lookK_put kvs _ k _
  have g1 : lookK (putKD kvs (.inr (Str.ofString "memo")) (.ref m')) (.inr "looked") = some (.ref l) := by rw [pk, if_neg (by decide +kernel)]; exact k1
  have g2 : lookK (putKD kvs (.inr (Str.ofString "memo")) (.ref m')) (.inr "memo") = some (.ref m') := by rw [pk, if_pos rfl]
  have g3 : lookK (putKD kvs (.inr (Str.ofString "memo")) (.ref m')) (.inr "body") = some (enc t) := by rw [pk, if_neg (by decide +kernel)]; exact k3
  have g4 : lookK (putKD kvs (.inr (Str.ofString "memo")) (.ref m')) (.inr "lent") = some (.ref ln) := by rw [pk, if_neg (by decide +kernel)]; exact k4
  have g5 : (putKD kvs (.inr (Str.ofString "memo")) (.ref m')).length ≤ 10 := by rw [putKD_has k2]; exact hkl
  generalize putKD kvs (.inr (Str.ofString "memo")) (.ref m') = kvs' at *
  refine ⟨ta, n4, 2, rfl, en7, by decide, by decide, fun d m0 d0 d1 => ?_⟩
  have pt : ∀ {y : Addr} {o : Ob}, s7 y = some o → y ≠ ta → put s7 ta (.lst [.int m0]) y = some o := fun h ne => by rw [put_ne ne]; exact h
  have ea8 := pt ea7 nta.symm
  have lok8 := pt lok7 ntl.symm
  have len8 := pt len7 (ne_ob len7 en7 (by simp))
  have em8 := pt em7 nmt'
  have efo8 := pt efo7 ntf.symm
  have en8 := put_same (st := s7) (a := ta) (o := .lst [.int m0])
  have kp8 := kp7.put (o := .lst [.int m0]) (.inl (.inl rfl))
  generalize put s7 ta (.lst [.int m0]) = s8 at *
  have hst : storeD (dmap plEnc DV.int lk) (plEnc.key x) (encP x) (.int d) = dmap plEnc DV.int (lk ++ [(x, d)]) := by
    have := storeD_dmap plEnc DV.int lk x d
    rw [assocPut_new hxn] at this; exact this
  erw [ea8, g1, lok8, lw_key, hst]
  refine ⟨small (by unfold dmap; rw [List.length_map]; omega), ?_⟩
  have lok9 := put_same (st := s8) (a := l) (o := .dic (dmap plEnc DV.int (lk ++ [(x, d)])))
  have plk : ∀ {y : Addr} {o : Ob}, s8 y = some o → y ≠ l → put s8 l (.dic (dmap plEnc DV.int (lk ++ [(x, d)]))) y = some o := fun h ne => by rw [put_ne ne]; exact h
  have ea9 := plk ea8 (ne_ob ea8 lok8 (by simp))
  have len9 := plk len8 (ne_ob len8 lok8 (by simp))
  have em9 := plk em8 nlm'.symm
  have efo9 := plk efo8 nfl
  have en9 := plk en8 ntl
  have kp9 : Kp (fun e => e = ta ∨ e = fo) st (put s8 l (.dic (dmap plEnc DV.int (lk ++ [(x, d)])))) := fun e o he hF => plk (kp8 e o he hF) (ne_some he h1)
  generalize put s8 l (.dic (dmap plEnc DV.int (lk ++ [(x, d)]))) = s9 at *
  have eam9 : lstAt s9 am = some (aims.map encP) := kp9.lstAt (fun z => by
    rcases z with z | z
    · obtain ⟨n, e⟩ := tp0
      rw [z, lstAt_lst e] at eam
      have h2 := Option.some.inj eam
      cases aims with
      | nil => cases h2
      | cons p2 r2 => simp [encP] at h2
    · rw [z, zfo] at hoam; cases hoam) eam
  have naml : am ≠ l := ne_some hoam h1
  have namfo : am ≠ fo := ne_some hoam zfo
  have nama : am ≠ a := ne_some hoam z4
  have nammm : am ≠ m' := ne_some hoam zm'
  erw [eam9]
  obtain ⟨ux, hux, _⟩ := deed_places hxd
  have hxin : x ∈ placesIn t [] := mem_places0.mpr ⟨ux, hux⟩
  refine forL_lst encP (fun e => e = l) (fun l2 r2 ρ sx => ∃ (v : Int) (x9 : Option DV), ρ = [some (.ref ta), some (enc t), some (encP off), some (.ref am), some (.ref a), some (.ref fo), some (.ref so), some (.ref re), some (encP x), x9] ∧ sx l = some (.dic (dmap plEnc DV.int (lk ++ [(x, v)]))) ∧ (ux.w = .look → v = 0 ∨ v = 1) ∧ (ux.w = .look → ∀ y ∈ l2, ∀ j z, y = x ++ j :: z → v = j)) ?_ ?_
    ⟨d, _, rfl, by rw [lock_one_ne naml.symm]; exact lok9, fun _ => by omega, fun _ y h => (nomatch h)⟩
  · rintro l2 y r2 ρ sx e ⟨v, x9, rfl, lokx, hv, hva⟩ kpx Nn hN
    have hy : y ∈ aims := by rw [← e]; simp
    have hyl := hpl y (hpin y hy)
    have hxl := hpl x hxin
    have eax : sx a = some (.dck kvs') := kpx a _ (by rw [lock_one_ne nama.symm]; exact ea9) (ne_ob ea8 lok8 (by simp))
    -- not asked for
    have skip : (¬ ∃ j z, y = x ++ j :: z) → Nn [some (.ref ta), some (enc t), some (encP off), some (.ref am), some (.ref a), some (.ref fo), some (.ref so), some (.ref re), some (encP x), some (encP y)] sx := fun hno => hN _ _ ⟨v, _, rfl, lokx, hv, fun hw y2 hy2 j z ey => by
      rcases List.mem_append.mp hy2 with h | h
      · exact hva hw y2 h j z ey
      · simp at h; subst h; exact absurd ⟨j, z, ey⟩ hno⟩ kpx
    erw [encP, List.length_map, cut_to_ints]
    refine ⟨_, eqIs_pl _ _, ?_⟩
    by_cases htk : y.take x.length = x
    · by_cases hlt : x.length < y.length
      · have ey : y = x ++ y[x.length] :: y.drop (x.length + 1) := by
          have := List.take_append_drop x.length y
          rw [htk, List.drop_eq_getElem_cons hlt] at this
          exact this.symm
        have hst2 : storeD (dmap plEnc DV.int (lk ++ [(x, v)])) (plEnc.key x) (.tup (x.map DV.int)) (.int y[x.length]) = dmap plEnc DV.int (lk ++ [(x, y[x.length])]) := by
          have := storeD_dmap plEnc DV.int (lk ++ [(x, v)]) x y[x.length]
          rw [assocPut_last hxn] at this; exact this
        erw [htk, decide_true, List.length_map]
        rw [if_pos (by exact_mod_cast hlt)]
        erw [atI_intsN (List.getElem?_eq_getElem hlt), eax, g1, lokx, lw_key', hst2]
        refine ⟨small (by unfold dmap; rw [List.length_map, List.length_append, List.length_singleton]; omega), hN _ _ ⟨y[x.length], _, rfl, put_same, fun hw => ?_, fun hw y2 hy2 j z e2 => ?_⟩ (kpx.put (.inl rfl))⟩
        · obtain ⟨v2, hv2⟩ := mem_places0.mp (hpin y hy)
          rw [ey] at hv2
          obtain ⟨u', g6, g7⟩ := atP_split hv2
          rw [hux] at g6; cases g6
          obtain ⟨hk, w, e1, _⟩ := atP_cons g7
          have mu := (atP_all hux).2.1 c bk.made
          have h4 : ux.ps.length = 2 := by
            obtain ⟨w, ns, ps⟩ := ux
            cases (show w = .look from hw)
            simpa [partsN, Tm.ps] using mu.2.1
          have h5 := (List.getElem?_eq_some_iff.mp e1).1
          omega
        · rcases List.mem_append.mp hy2 with h | h
          · have := hco y hy y2 (by rw [← e]; simp [h]) x y[x.length] j (y.drop (x.length + 1)) z ux ey e2 hux hw
            exact this
          · simp at h
            rw [h, ey] at e2
            exact app_inj e2
      · erw [htk, decide_true, List.length_map]
        rw [if_neg (by exact_mod_cast hlt)]
        exact skip fun ⟨j, z, ey⟩ => hlt (by rw [ey]; simp)
    · erw [htk, decide_false]
      exact skip fun ⟨j, z, ey⟩ => htk (by rw [ey, List.take_left])
  · rintro ρ sx ⟨v, x9, rfl, lokx, hv, hva⟩ kpx
    have lokU : unlockS s9 sx [am] l = some (.dic (dmap plEnc DV.int (lk ++ [(x, v)]))) := by rw [unlock_one_ne naml.symm]; exact lokx
    have nol : ∀ {y : Addr} {o : Ob}, s9 y = some o → y ≠ l → unlockS s9 sx [am] y = some o := fun h ne => kpx _ _ h ne
    have eaU := nol ea9 (ne_ob ea8 lok8 (by simp))
    have lenU := nol len9 (ne_ob len8 lok8 (by simp))
    have emU := nol em9 nlm'.symm
    have efoU := nol efo9 nfl
    have enU := nol en9 ntl
    have kpU : Kp (fun e => e = ta) st (unlockS s9 sx [am]) := fun e o he hF => by
      have h1' := kp9 e o he (fun z => by rcases z with z | z; exact hF z; rw [z, zfo] at he; cases he)
      exact nol h1' (ne_some he h1)
    erw [True.intro]
    generalize unlockS s9 sx [am] = s10 at *
    have F' := F.add bk (v := v) hx (fun u hu hw => by rw [hux] at hu; cases hu; exact hv hw) (fun u hu hw y hy j z e => by rw [hux] at hu; cases hu; exact hva hw y hy j z e) hoff
    have N10 : NowF s10 a t (lk ++ [(x, v)]) l m' ln := ⟨⟨kvs', eaU, g5, g1, g2, g3, g4⟩, lokU, lenU, ⟨[], emU, List.nodup_nil, fun x h => (nomatch h)⟩, nlm', N4.ne1⟩
    refine ⟨small (by decide), c, t, a, lk ++ [(x, v)], l, m', ln, [], rfl, bk, N10.toR, F'.lko, emU, ⟨List.nodup_nil, fun x h => (nomatch h)⟩, fun so' mx hso hmx => ?_⟩
    have nms := ne_some emU hso
    have hso' : put s10 m' (.dic (dmap plEnc DV.bl mx)) so' = none := by rw [put_ne nms.symm]; exact hso
    have hlen := F'.len bk
    rw [List.length_append, List.length_singleton] at hlen
    have nfm : fo ≠ m' := ne_ob efoU emU (by simp)
    refine ⟨60 - (lk ++ [(x, v)]).length, by rw [List.length_append, List.length_singleton]; omega, lk ++ [(x, v)], m', so', _, _, _, rfl, rfl, ?_, ⟨m0, ?_⟩, (N10.memo hmx).sub (Sub.new hso'), zm', nmt', ?_, ne_some efoU hso, put_same, F'⟩
    · exact fun e o he hF => by
        have h2' := kpU e o he hF
        rw [put_ne (ne_some h2' hso), put_ne (ne_some he zm')]; exact h2'
    · rw [put_ne (ne_some enU hso), put_ne nmt'.symm]; exact enU
    · rw [put_ne (ne_some efoU hso), put_ne nfm, efoU]
      simp

theorem apart_cons {c : Int} {t : Tm} (bk : Bk c t) {p q : Place} (hp : p ∈ placesIn t []) (h : apartB t p q = false) : Cons t [p, q] := by
  have key : ∀ (L : Place) (k k' : Int) (z z' : Place) (u : Tm), p = L ++ k :: z → q = L ++ k' :: z' → atP t L = some u → u.w = .look → k = k' := fun L k k' z z' u e1 e2 hu hw => by
    refine Classical.byContradiction fun hk => ?_
    have hc : cpl p q = L.length := by
      rw [e1, e2]
      clear e1 e2 hu
      induction L with
      | nil => simp [cpl, hk]
      | cons a L ih => rw [List.cons_append, List.cons_append, cpl, if_pos rfl, ih]; rfl
    unfold apartB at h
    rw [if_neg (by rw [hc, e1, e2]; simp), hc] at h
    have : p.take L.length = L := by rw [e1, List.take_left]
    rw [this, hu] at h
    simp [hw] at h
  intro x hx y hy L k k' z z' u e1 e2 hu hw
  simp at hx hy
  rcases hx with rfl | rfl <;> rcases hy with rfl | rfl
  · exact app_inj (e1.symm.trans e2)
  · exact key L k k' z z' u e1 e2 hu hw
  · exact (key L k' k z' z u e2 e1 hu hw).symm
  · exact app_inj (e1.symm.trans e2)
theorem isa_bool : Ty.bool.isa .bool = true := rfl
theorem one_cons (t : Tm) (q : Place) : Cons t [q] := fun x hx y hy L k k' z z' u e1 e2 hu hw => by
  simp at hx hy; subst hx; subst hy; exact app_inj (e1.symm.trans e2)
abbrev s__law_right : Stmt := (topS 28)
abbrev N__law_right : List Str := ["tape", "book", "p", "q", "told", "done"]
theorem sc__law_right : FnScope N__law_right ["tape", "book", "p", "q"] (defScope s__law_right) := ⟨rfl, rfl, rfl, by decide +kernel, rfl, by decide +kernel, by decide +kernel⟩
def sp__law_right : DSp := fun ds st Q _ => ∃ c a t p q, ds = [.ref a, encB c t, encP p, encP q] ∧ Tp st a ∧ Bk c t ∧ isDeed t p = true ∧ isDeed t q = true ∧ ∀ st', Kp (fun e => e = a) st st' → Tp st' a → Q (.bl true) st'
theorem cal__law_right (D : Def K mg "_law_right" s__law_right ["tape", "book", "p", "q"]) (b_isinstance : mg "isinstance" = none) (b_bool : mg "bool" = none) (C_is_before : Cal P w K mg base 18 "is_before" ["book", "p", "q"] sp_is_before) (C_are_apart : Cal P w K mg base 18 "are_apart" ["book", "p", "q"] sp_are_apartB) (C__law_free_weave : Cal P w K mg base 136 "_law_free_weave" ["tape", "body", "off", "aims"] sp__law_free_weave) : Cal P w K mg base 137 "_law_right" ["tape", "book", "p", "q"] sp__law_right := by
  refine cal_ok D sc__law_right (fun f cdv A outer s0 H E hr => (dss_cons (ds_if (dw_dt (dw_or (dt_cmp (op_eqU hr.units) dop_eq (de_var 2) (de_var 3) (nomark _)) (dw_or1 (dt_cmp op_isBl dop_isBl (de_c C_are_apart hr (passes_call (takes_of rfl rfl rfl rfl) (fun _ _ _ _ h => h)) (da_cons (de_var 1) (da_cons (de_var 2) (da_cons (de_var 3) da_nil)))) de_bl (nomark _))))) (dss_one (ds_ret (de_cmp op_isBl dop_isBl (de_c C_is_before hr (passes_call (takes_of rfl rfl rfl rfl) (fun _ _ _ _ h => h)) (da_cons (de_var 1) (da_cons (de_var 2) (da_cons (de_var 3) da_nil)))) de_bl (nomark _)))) dss_nil)
      (dss_cons (ds_set 4 sc__law_right.nd (de_c C_is_before hr (passes_call (takes_of rfl rfl rfl rfl) (fun _ _ _ _ h => h)) (da_cons (de_var 1) (da_cons (de_var 2) (da_cons (de_var 3) da_nil)))))
      (dss_cons (ds_set 5 sc__law_right.nd (de_c C__law_free_weave hr (passes_call (takes_of rfl rfl rfl rfl) (fun _ _ _ _ h => h)) (da_cons (de_var 0) (da_cons (de_ix (de_var 1) de_int (fun _ _ => rfl)) (da_cons (de_var 2) (da_cons (de_lst (da_cons (de_var 2) (da_cons (de_var 3) da_nil))) da_nil))))))
      (dss_cons (ds_if (dw_dt (dw_or (dt_not (dt_val (de_isi .bool b_isinstance b_bool (de_var 4) (by decide +kernel)))) (dw_or1 (dt_cmp (op_neU hr.units) dop_ne (de_var 4) (de_cmp (op_ltU hr.units0) dop_lt (de_lm PySem.F.slot_list_index PySem.F.type_list_index (mt_indexD (units65 hr)) dm_index (de_var 5) (da_cons (de_var 2) da_nil)) (de_lm PySem.F.slot_list_index PySem.F.type_list_index (mt_indexD (units65 hr)) dm_index (de_var 5) (da_cons (de_var 3) da_nil)) (nomark _)) (nomark _))))) (dss_one (ds_ret de_bl)) dss_nil)
      (dss_cons (ds_set 5 sc__law_right.nd (de_c C__law_free_weave hr (passes_call (takes_of rfl rfl rfl rfl) (fun _ _ _ _ h => h)) (da_cons (de_var 0) (da_cons (de_ix (de_var 1) de_int (fun _ _ => rfl)) (da_cons (de_tup (da_cons de_int da_nil)) (da_cons (de_lst (da_cons (de_var 3) da_nil)) da_nil))))))
      (dss_cons (ds_if (dw_dt (dw_or (dt_not (dt_val (de_var 4))) (dw_or1 (dt_cmp (op_notInU (units65 hr)) dop_notIn (de_var 2) (de_var 5) rfl)))) (dss_one (ds_ret de_bl)) dss_nil)
      (dss_one (ds_ret (de_cmp (op_ltU hr.units0) dop_lt (de_lm PySem.F.slot_list_index PySem.F.type_list_index (mt_indexD (units65 hr)) dm_index (de_var 5) (da_cons (de_var 2) da_nil)) (de_lm PySem.F.slot_list_index PySem.F.type_list_index (mt_indexD (units65 hr)) dm_index (de_var 5) (da_cons (de_var 3) da_nil)) (nomark _))))))))))) ?_
  rintro _ st Q W ⟨c, a, t, p, q, rfl, tp0, bk, dp, dq, k⟩
  refine ⟨rfl, ?_⟩
  obtain ⟨up, hup, _⟩ := deed_places dp
  obtain ⟨uq, huq, _⟩ := deed_places dq
  have hp : p ∈ placesIn t [] := mem_places0.mpr ⟨up, hup⟩
  have hq : q ∈ placesIn t [] := mem_places0.mpr ⟨uq, huq⟩
  have ba : ∀ b : Bool, (b = true ↔ Bef t (outs (edgesAllL t)) p q) → (p = q ∨ apartB t p q = true) → b = false := fun b hb h => by
    cases b with
    | false => rfl
    | true =>
      obtain ⟨h1, h2, _⟩ := hb.mp rfl
      rcases h with h | h
      · exact absurd h h1
      · rw [h2] at h; cases h
  simp only [startD, List.map_cons, List.map_nil, List.length_cons, List.length_nil, Nat.reduceAdd, Nat.reduceSub, Nat.zero_add, List.replicate_succ, List.replicate_zero, List.cons_append, List.nil_append]
  refine seq_by (fun ρ s => ρ = [some (.ref a), some (encB c t), some (encP p), some (encP q), none, none] ∧ st = s ∧ p ≠ q ∧ apartB t p q = false) (fun N hN => ?_) ?_
  · rwa [encP]
    refine ⟨_, eqIs_pl p q, ?_⟩
    by_cases e : p = q
    · rwa [e, decide_true]
      refine ⟨c, t, p, q, by rw [e]; rfl, bk, hp, hq, fun b hb => ?_⟩
      obtain rfl := ba b hb (.inl e)
      erw [True.intro]
      exact Rt.of (k _ (.refl _ _) tp0)
    · rwa [e, decide_false]
      refine ⟨c, t, p, q, rfl, bk, hp, hq, ?_⟩
      cases hap : apartB t p q with
      | true =>
        rwa [True.intro]
        refine ⟨c, t, p, q, rfl, bk, hp, hq, fun b hb => ?_⟩
        obtain rfl := ba b hb (.inr hap)
        erw [True.intro]
        exact Rt.of (k _ (.refl _ _) tp0)
      | false =>
        rwa [True.intro]
        exact hN _ _ ⟨rfl, rfl, e, hap⟩
  rintro _ _ ⟨rfl, rfl, hne, hap⟩
  erw [True.intro]
  refine ⟨c, t, p, q, rfl, bk, hp, hq, fun b hb => ?_⟩
  erw [encB]
  refine ⟨small (by decide), fun am ham => ?_⟩
  have eam := put_same (st := st) (a := am) (o := .lst [encP p, encP q])
  have kp1 : Kp (fun e => e = a) st (put st am (.lst [encP p, encP q])) := (Kp.refl _ _).put (.inr ham)
  have tp1 := tp0.put (o := .lst [encP p, encP q]) ham
  generalize put st am (.lst [encP p, encP q]) = s1 at *
  refine ⟨c, a, t, p, am, [p, q], rfl, tp1, bk, lstAt_lst eam, fun x hx => by simp at hx; rcases hx with rfl | rfl <;> assumption, apart_cons bk hp hap, by simp, fun fo lk s2 hfo kp2 tp2 efo F hemp => ?_⟩
  have hpm := F.all bk hemp (a := p) (by simp) dp
  have hqm := F.all bk hemp (a := q) (by simp) dq
  have hput := F.put bk hpm hqm hne hap
  erw [isa_bool, Bool.not_true, efo, lstAt_lst efo]
  refine ⟨_, idxIs_pls hpm, _, idxIs_pls hqm, ?_⟩
  have hbb : decide (((lk.map (·.1)).idxOf p : Int) < ((lk.map (·.1)).idxOf q : Int)) = b := by
    refine bool_iff (p := Bef t (outs (edgesAllL t)) p q) ?_ hb
    rw [decide_eq_true_eq]
    refine Iff.trans ?_ hput
    omega
  erw [hbb, decide_true, Bool.not_true]
  refine ⟨small (by decide), small (by decide), fun am2 ham2 => ?_⟩
  have eam2 := put_same (st := s2) (a := am2) (o := .lst [encP q])
  have kp3 := (kp1.trans kp2).put (o := .lst [encP q]) (.inr ham2)
  have tp3 := tp2.put (o := .lst [encP q]) ham2
  generalize put s2 am2 (.lst [encP q]) = s3 at *
  refine ⟨c, a, t, [99], am2, [q], rfl, tp3, bk, lstAt_lst eam2, fun x hx => by simp at hx; subst hx; exact dq, one_cons t q, by simp, fun fo2 lk2 s4 hfo2 kp4 tp4 efo2 F2 hemp2 => ?_⟩
  have hqm2 := F2.all bk hemp2 (a := q) (by simp) dq
  have fin : Rt Q (.bl true) s4 := Rt.of (k _ (kp3.trans kp4) tp4)
  cases b with
  | false =>
    erw [Bool.not_false]
    exact fin
  | true =>
    erw [Bool.not_true, lstAt_lst efo2, encP]
    refine ⟨_, inIs_pls p _, ?_⟩
    by_cases hm : p ∈ lk2.map (·.1)
    · erw [hm, decide_true, Bool.true_xor, Bool.not_true, efo2, lstAt_lst efo2]
      refine ⟨_, idxIs_pls hm, _, idxIs_pls hqm2, ?_⟩
      have := F2.first bk hm hqm2 (hb.mp rfl)
      have h2 : decide (((lk2.map (·.1)).idxOf p : Int) < ((lk2.map (·.1)).idxOf q : Int)) = true := by rw [decide_eq_true_eq]; omega
      erw [h2]
      exact fin
    · erw [hm, decide_false, Bool.true_xor, Bool.not_false]
      exact fin

abbrev s_law : Stmt := (topS 29)
abbrev N_law : List Str := ["script", "book", "places", "k", "tape", "turn", "p"]
theorem sc_law : FnScope N_law ["script"] (defScope s_law) := ⟨rfl, rfl, rfl, by decide +kernel, rfl, by decide +kernel, by decide +kernel⟩
theorem ok_law {f : Addr} {fd : FuncData} (F : Fun K "law" "law" s_law f fd) (b_range : mg "range" = none) (b_max : mg "max" = none) (b_min : mg "min" = none) (b_len : mg "len" = none) (b_int : mg "int" = none)
    (C__law_book : Cal P w K mg base 17 "_law_book" ["script", "start", "lends"] spBook) (C__law_tape : Cal P w K mg base 2 "_law_tape" ["script", "k"] spTape) (C__law_deeds : Cal P w K mg base 15 "_law_deeds" ["body"] sp__law_deeds)
    (C__law_digit : Cal P w K mg base 1 "_law_digit" ["tape", "many"] spDigit) (C__law_right : Cal P w K mg base 137 "_law_right" ["tape", "book", "p", "q"] sp__law_right) :
    FnOk P w K mg base (CX P w) 138 f fd ["script"] (spOf P w K sp_law) := by
  refine fn_okF F sc_law (fun f cdv A outer s0 H E hr => (dss_cons (ds_set 1 sc_law.nd (de_c C__law_book hr (passes_call (takes_of rfl rfl rfl rfl) (fun _ _ _ _ h => h)) (da_cons (de_var 0) (da_cons de_int (da_cons de_bl da_nil)))))
      (dss_cons (ds_set 2 sc_law.nd (de_c C__law_deeds hr (passes_call (takes_of rfl rfl rfl rfl) (fun _ _ _ _ h => h)) (da_cons (de_ix (de_var 1) de_int (fun _ _ => rfl)) da_nil)))
      (dss_cons (ds_for (passes_of rfl) rfl (di_range2 b_range (da_cons de_int (da_cons (de_b (call_max2 rfl) dc_max2 b_max (by decide +kernel) (da_cons de_int (da_cons (de_b (call_min2 rfl) dc_min2 b_min (by decide +kernel) (da_cons de_int (da_cons (de_b call_len dc_len b_len PySem.boot_len (da_cons (de_var 0) da_nil)) da_nil))) da_nil))) da_nil))) (dg_name 3 sc_law.nd) (dss_cons (ds_set 4 sc_law.nd (de_c C__law_tape hr (passes_call (takes_of rfl rfl rfl rfl) (fun _ _ _ _ h => h)) (da_cons (de_var 0) (da_cons (de_var 3) da_nil))))
      (dss_one (ds_for (passes_of rfl) rfl (di_range1 b_range (da_cons (de_op op_mulU dop_mul de_int (de_ty call_int1 dc_int b_int (by decide +kernel) (da_cons (de_cmp (op_neU hr.units) dop_ne (de_var 2) (de_lst da_nil) (nomark _)) da_nil))) da_nil)) (dg_name 5 sc_law.nd) (dss_cons (ds_set 6 sc_law.nd (de_ix (de_var 2) (de_c C__law_digit hr (passes_call (takes_of rfl rfl rfl rfl) (fun _ _ _ _ h => h)) (da_cons (de_var 4) (da_cons (de_b call_len dc_len b_len PySem.boot_len (da_cons (de_var 2) da_nil)) da_nil))) (fun _ _ => rfl)))
      (dss_one (ds_if (dt_not (dt_val (de_c C__law_right hr (passes_call (takes_of rfl rfl rfl rfl) (fun _ _ _ _ h => h)) (da_cons (de_var 4) (da_cons (de_var 1) (da_cons (de_var 6) (da_cons (de_ix (de_var 2) (de_c C__law_digit hr (passes_call (takes_of rfl rfl rfl rfl) (fun _ _ _ _ h => h)) (da_cons (de_var 4) (da_cons (de_b call_len dc_len b_len PySem.boot_len (da_cons (de_var 2) da_nil)) da_nil))) (fun _ _ => rfl)) da_nil))))))) (dss_one (ds_ret de_bl)) dss_nil)))))))
      (dss_one (ds_ret de_bl)))))) ?_
  rintro _ st Q W ⟨s, ns, rfl, es, hlen, q⟩
  refine ⟨rfl, ?_⟩
  have fin : ∀ st1, Rt Q (.bl true) st1 := fun st1 => ⟨emp, emp_sub _, q⟩
  erw [True.intro]
  refine ⟨s, 0, true, ns, rfl, es, Int.le_refl _, fun c t bk _ => ?_⟩
  have hsz := bk.size
  erw [encB]
  refine ⟨t, rfl, bk.made.ok, bk.high, bk.size, fun pl hpl => ?_⟩
  have epl := put_same (st := st) (a := pl) (o := .lst ((deedsOf t).map encP))
  have es1 := lstAt_new (o := .lst ((deedsOf t).map encP)) es hpl
  generalize put st pl (.lst ((deedsOf t).map encP)) = s1 at *
  have hdl : (deedsOf t).length ≤ 60 := by
    have h1 : (deedsOf t).length ≤ (placesIn t []).length := List.length_filter_le _ _
    rw [placesIn_length] at h1
    omega
  have hdm : ∀ x ∈ deedsOf t, isDeed t x = true := fun x hx => (List.mem_filter.mp hx).2
  erw [es1, List.length_map]
  refine ⟨⟨by decide, by decide, by split <;> (try split) <;> omega, by split <;> (try split) <;> omega⟩, ?_⟩
  refine forL_inv (fun ρ sx => Sub s1 sx ∧ ∃ x3 x4 x5 x6, ρ = [some (.ref s), some (encB c t), some (.ref pl), x3, x4, x5, x6]) _ ?_ ?_ _ _ ⟨Sub.refl _, _, _, _, _, rfl⟩
  · rintro _ hd ρ sx ⟨subx, x3, x4, x5, x6, rfl⟩ N hN
    obtain ⟨j, j0, -, rfl⟩ := mem_rangeD hd
    erw [True.intro]
    refine ⟨s, j, ns, rfl, lstAt_sub es1 subx, by omega, fun n0 ta hta => ?_⟩
    have eta : Tp (put sx ta (.lst [.int n0])) ta := ⟨n0, put_same⟩
    have sub2 := subx.put (o := .lst [.int n0]) hta
    have zta := subx.none hta
    generalize put sx ta (.lst [.int n0]) = s2 at *
    have epl2 := sub2 _ _ epl
    erw [True.intro]
    refine ⟨small (by decide), fun p0 hp0 => ⟨(deedsOf t).isEmpty, eqIs_lists (lstAt_new (lstAt_lst epl2) hp0) lstAt_same (plains_encP _) rfl (Nat.le_trans (deeps_encP _) (by decide)) (by rw [deeps]; decide) (by cases deedsOf t <;> simp), ?_⟩⟩
    have sub3 := sub2.put (o := .lst []) hp0
    have eta3 := eta.put (o := .lst []) hp0
    generalize put s2 p0 (.lst []) = s3 at *
    have npt : pl ≠ ta := ne_some epl zta
    cases hde : deedsOf t with
    | nil =>
      erw [List.isEmpty_nil, Bool.not_true]
      refine ⟨.inl ⟨by decide, by decide⟩, ⟨by decide, by decide⟩, ?_⟩
      exact hN _ _ ⟨sub3, _, _, _, _, rfl⟩
    | cons d0 ds0 =>
      have hne : 0 < (deedsOf t).length := by rw [hde]; simp
      rw [← hde]
      have hie : (deedsOf t).isEmpty = false := by rw [hde]; rfl
      erw [hie, Bool.not_false]
      refine ⟨.inl ⟨by decide, by decide⟩, ⟨by decide, by decide⟩, ?_⟩
      refine forL_inv (fun ρ sx => Sub s1 sx ∧ Tp sx ta ∧ ∃ x5 x6, ρ = [some (.ref s), some (encB c t), some (.ref pl), some (.int j), some (.ref ta), x5, x6]) _ ?_ ?_ _ _ ⟨sub3, eta3, _, _, rfl⟩
      · rintro _ hd ρ sx ⟨subx, ⟨n4, en4⟩, x5, x6, rfl⟩ N2 hN2
        have eplx := subx _ _ epl
        erw [lstAt_lst eplx, List.length_map]
        refine ⟨ta, n4, (deedsOf t).length, rfl, en4, by omega, by omega, fun d m0 g0 g1 => ?_⟩
        obtain ⟨x, hxm, _, hx2⟩ := atI_mapI (f := encP) (xs := deedsOf t) g0 g1
        have epl5 : lstAt (put sx ta (.lst [.int m0])) pl = some ((deedsOf t).map encP) := by rw [lstAt_put npt]; exact lstAt_lst eplx
        have sub5 : Sub s1 (put sx ta (.lst [.int m0])) := subx.chg zta
        have en5 := put_same (st := sx) (a := ta) (o := .lst [.int m0])
        erw [epl5, hx2, List.length_map]
        generalize put sx ta (.lst [.int m0]) = s5 at *
        refine ⟨ta, m0, (deedsOf t).length, rfl, en5, by omega, by omega, fun d' m1 g0' g1' => ?_⟩
        obtain ⟨y, hym, _, hy2⟩ := atI_mapI (f := encP) (xs := deedsOf t) g0' g1'
        have epl6 : lstAt (put s5 ta (.lst [.int m1])) pl = some ((deedsOf t).map encP) := by rw [lstAt_put npt]; exact epl5
        erw [epl6, hy2]
        have sub6 : Sub s1 (put s5 ta (.lst [.int m1])) := sub5.chg zta
        refine ⟨c, ta, t, x, y, rfl, ⟨m1, put_same⟩, bk, hdm x hxm, hdm y hym, fun s7 kp7 tp7 => ?_⟩
        erw [Bool.not_true]
        exact hN2 _ _ ⟨(kp7.sub_l sub6).sub fun e he => he ▸ zta, tp7, _, _, rfl⟩
      · rintro ρ sx ⟨subx, _, x5, x6, rfl⟩
        exact hN _ _ ⟨subx, _, _, _, _, rfl⟩
  · rintro ρ sx ⟨subx, x3, x4, x5, x6, rfl⟩
    exact fin _

--@USED Net.__init__
--@USED Net.roads_from
--@USED Net.are_apart
--@USED Net.is_before
end
theorem all_mk {l : PySem.W.OpenLaw} {w : World} {K : PySem.W.Frag} {h : Heap} {mg : Str → Option Value} {fa : Addr} (X : K.In h) (G : h.Ns mainGlobals mg) (hfa : mg "law" = some (.ref fa))
    {f0 : Addr} {od0 an0 : Option Addr} {sl0 : Array (Option Value)} {oc0 kV0 dc0 pm0 cd0 ct0 : Value}
    (a0 : PySem.W.nsIn K mainGlobals "parts_of" = some (some (.ref f0))) (l0 : K.lookup f0 = some ⟨oc0, od0, .func (PySem.W.fnOf "parts_of" "parts_of" (defArgs s_parts_of) (defBody s_parts_of) (defScope s_parts_of) .none kV0 dc0 pm0 an0 cd0 ct0), sl0⟩)
    (c0 : PySem.W.codeIn K cd0 "parts_of" = true) (k0 : PySem.W.keepIn K (.ref f0) = true)
    {f1 : Addr} {od1 an1 : Option Addr} {sl1 : Array (Option Value)} {oc1 kV1 dc1 pm1 cd1 ct1 : Value}
    (a1 : PySem.W.nsIn K mainGlobals "places_in" = some (some (.ref f1))) (l1 : K.lookup f1 = some ⟨oc1, od1, .func (PySem.W.fnOf "places_in" "places_in" (defArgs s_places_in) (defBody s_places_in) (defScope s_places_in) .none kV1 dc1 pm1 an1 cd1 ct1), sl1⟩)
    (c1 : PySem.W.codeIn K cd1 "places_in" = true) (k1 : PySem.W.keepIn K (.ref f1) = true)
    {f2 : Addr} {od2 an2 : Option Addr} {sl2 : Array (Option Value)} {oc2 kV2 dc2 pm2 cd2 ct2 : Value}
    (a2 : PySem.W.nsIn K mainGlobals "term_in" = some (some (.ref f2))) (l2 : K.lookup f2 = some ⟨oc2, od2, .func (PySem.W.fnOf "term_in" "term_in" (defArgs s_term_in) (defBody s_term_in) (defScope s_term_in) .none kV2 dc2 pm2 an2 cd2 ct2), sl2⟩)
    (c2 : PySem.W.codeIn K cd2 "term_in" = true) (k2 : PySem.W.keepIn K (.ref f2) = true)
    {f3 : Addr} {od3 an3 : Option Addr} {sl3 : Array (Option Value)} {oc3 kV3 dc3 pm3 cd3 ct3 : Value}
    (a3 : PySem.W.nsIn K mainGlobals "lent_places" = some (some (.ref f3))) (l3 : K.lookup f3 = some ⟨oc3, od3, .func (PySem.W.fnOf "lent_places" "lent_places" (defArgs s_lent_places) (defBody s_lent_places) (defScope s_lent_places) .none kV3 dc3 pm3 an3 cd3 ct3), sl3⟩)
    (c3 : PySem.W.codeIn K cd3 "lent_places" = true) (k3 : PySem.W.keepIn K (.ref f3) = true)
    {f4 : Addr} {od4 an4 : Option Addr} {sl4 : Array (Option Value)} {oc4 kV4 dc4 pm4 cd4 ct4 : Value}
    (a4 : PySem.W.nsIn K mainGlobals "points_behind" = some (some (.ref f4))) (l4 : K.lookup f4 = some ⟨oc4, od4, .func (PySem.W.fnOf "points_behind" "points_behind" (defArgs s_points_behind) (defBody s_points_behind) (defScope s_points_behind) .none kV4 dc4 pm4 an4 cd4 ct4), sl4⟩)
    (c4 : PySem.W.codeIn K cd4 "points_behind" = true) (k4 : PySem.W.keepIn K (.ref f4) = true)
    {f5 : Addr} {od5 an5 : Option Addr} {sl5 : Array (Option Value)} {oc5 kV5 dc5 pm5 cd5 ct5 : Value}
    (a5 : PySem.W.nsIn K mainGlobals "is_before" = some (some (.ref f5))) (l5 : K.lookup f5 = some ⟨oc5, od5, .func (PySem.W.fnOf "is_before" "is_before" (defArgs s_is_before) (defBody s_is_before) (defScope s_is_before) .none kV5 dc5 pm5 an5 cd5 ct5), sl5⟩)
    (c5 : PySem.W.codeIn K cd5 "is_before" = true) (k5 : PySem.W.keepIn K (.ref f5) = true)
    {f6 : Addr} {od6 an6 : Option Addr} {sl6 : Array (Option Value)} {oc6 kV6 dc6 pm6 cd6 ct6 : Value}
    (a6 : PySem.W.nsIn K mainGlobals "are_apart" = some (some (.ref f6))) (l6 : K.lookup f6 = some ⟨oc6, od6, .func (PySem.W.fnOf "are_apart" "are_apart" (defArgs s_are_apart) (defBody s_are_apart) (defScope s_are_apart) .none kV6 dc6 pm6 an6 cd6 ct6), sl6⟩)
    (c6 : PySem.W.codeIn K cd6 "are_apart" = true) (k6 : PySem.W.keepIn K (.ref f6) = true)
    {f7 : Addr} {od7 an7 : Option Addr} {sl7 : Array (Option Value)} {oc7 kV7 dc7 pm7 cd7 ct7 : Value}
    (a7 : PySem.W.nsIn K mainGlobals "_law_cell_at" = some (some (.ref f7))) (l7 : K.lookup f7 = some ⟨oc7, od7, .func (PySem.W.fnOf "_law_cell_at" "_law_cell_at" (defArgs s__law_cell_at) (defBody s__law_cell_at) (defScope s__law_cell_at) .none kV7 dc7 pm7 an7 cd7 ct7), sl7⟩)
    (c7 : PySem.W.codeIn K cd7 "_law_cell_at" = true) (k7 : PySem.W.keepIn K (.ref f7) = true)
    {f8 : Addr} {od8 an8 : Option Addr} {sl8 : Array (Option Value)} {oc8 kV8 dc8 pm8 cd8 ct8 : Value}
    (a8 : PySem.W.nsIn K mainGlobals "_law_tape" = some (some (.ref f8))) (l8 : K.lookup f8 = some ⟨oc8, od8, .func (PySem.W.fnOf "_law_tape" "_law_tape" (defArgs s__law_tape) (defBody s__law_tape) (defScope s__law_tape) .none kV8 dc8 pm8 an8 cd8 ct8), sl8⟩)
    (c8 : PySem.W.codeIn K cd8 "_law_tape" = true) (k8 : PySem.W.keepIn K (.ref f8) = true)
    {f9 : Addr} {od9 an9 : Option Addr} {sl9 : Array (Option Value)} {oc9 kV9 dc9 pm9 cd9 ct9 : Value}
    (a9 : PySem.W.nsIn K mainGlobals "_law_digit" = some (some (.ref f9))) (l9 : K.lookup f9 = some ⟨oc9, od9, .func (PySem.W.fnOf "_law_digit" "_law_digit" (defArgs s__law_digit) (defBody s__law_digit) (defScope s__law_digit) .none kV9 dc9 pm9 an9 cd9 ct9), sl9⟩)
    (c9 : PySem.W.codeIn K cd9 "_law_digit" = true) (k9 : PySem.W.keepIn K (.ref f9) = true)
    {f10 : Addr} {od10 an10 : Option Addr} {sl10 : Array (Option Value)} {oc10 kV10 dc10 pm10 cd10 ct10 : Value}
    (a10 : PySem.W.nsIn K mainGlobals "_law_shares" = some (some (.ref f10))) (l10 : K.lookup f10 = some ⟨oc10, od10, .func (PySem.W.fnOf "_law_shares" "_law_shares" (defArgs s__law_shares) (defBody s__law_shares) (defScope s__law_shares) .none kV10 dc10 pm10 an10 cd10 ct10), sl10⟩)
    (c10 : PySem.W.codeIn K cd10 "_law_shares" = true) (k10 : PySem.W.keepIn K (.ref f10) = true)
    {f11 : Addr} {od11 an11 : Option Addr} {sl11 : Array (Option Value)} {oc11 kV11 dc11 pm11 cd11 ct11 : Value}
    (a11 : PySem.W.nsIn K mainGlobals "_law_deed" = some (some (.ref f11))) (l11 : K.lookup f11 = some ⟨oc11, od11, .func (PySem.W.fnOf "_law_deed" "_law_deed" (defArgs s__law_deed) (defBody s__law_deed) (defScope s__law_deed) .none kV11 dc11 pm11 an11 cd11 ct11), sl11⟩)
    (c11 : PySem.W.codeIn K cd11 "_law_deed" = true) (k11 : PySem.W.keepIn K (.ref f11) = true)
    {f12 : Addr} {od12 an12 : Option Addr} {sl12 : Array (Option Value)} {oc12 kV12 dc12 pm12 cd12 ct12 : Value}
    (a12 : PySem.W.nsIn K mainGlobals "_law_leaf" = some (some (.ref f12))) (l12 : K.lookup f12 = some ⟨oc12, od12, .func (PySem.W.fnOf "_law_leaf" "_law_leaf" (defArgs s__law_leaf) (defBody s__law_leaf) (defScope s__law_leaf) .none kV12 dc12 pm12 an12 cd12 ct12), sl12⟩)
    (c12 : PySem.W.codeIn K cd12 "_law_leaf" = true) (k12 : PySem.W.keepIn K (.ref f12) = true)
    {f13 : Addr} {od13 an13 : Option Addr} {sl13 : Array (Option Value)} {oc13 kV13 dc13 pm13 cd13 ct13 : Value}
    (a13 : PySem.W.nsIn K mainGlobals "_law_term" = some (some (.ref f13))) (l13 : K.lookup f13 = some ⟨oc13, od13, .func (PySem.W.fnOf "_law_term" "_law_term" (defArgs s__law_term) (defBody s__law_term) (defScope s__law_term) .none kV13 dc13 pm13 an13 cd13 ct13), sl13⟩)
    (c13 : PySem.W.codeIn K cd13 "_law_term" = true) (k13 : PySem.W.keepIn K (.ref f13) = true)
    {f14 : Addr} {od14 an14 : Option Addr} {sl14 : Array (Option Value)} {oc14 kV14 dc14 pm14 cd14 ct14 : Value}
    (a14 : PySem.W.nsIn K mainGlobals "_law_book" = some (some (.ref f14))) (l14 : K.lookup f14 = some ⟨oc14, od14, .func (PySem.W.fnOf "_law_book" "_law_book" (defArgs s__law_book) (defBody s__law_book) (defScope s__law_book) .none kV14 dc14 pm14 an14 cd14 ct14), sl14⟩)
    (c14 : PySem.W.codeIn K cd14 "_law_book" = true) (k14 : PySem.W.keepIn K (.ref f14) = true)
    {f15 : Addr} {od15 an15 : Option Addr} {sl15 : Array (Option Value)} {oc15 kV15 dc15 pm15 cd15 ct15 : Value}
    (a15 : PySem.W.nsIn K mainGlobals "_law_parts" = some (some (.ref f15))) (l15 : K.lookup f15 = some ⟨oc15, od15, .func (PySem.W.fnOf "_law_parts" "_law_parts" (defArgs s__law_parts) (defBody s__law_parts) (defScope s__law_parts) .none kV15 dc15 pm15 an15 cd15 ct15), sl15⟩)
    (c15 : PySem.W.codeIn K cd15 "_law_parts" = true) (k15 : PySem.W.keepIn K (.ref f15) = true)
    {f16 : Addr} {od16 an16 : Option Addr} {sl16 : Array (Option Value)} {oc16 kV16 dc16 pm16 cd16 ct16 : Value}
    (a16 : PySem.W.nsIn K mainGlobals "_law_at" = some (some (.ref f16))) (l16 : K.lookup f16 = some ⟨oc16, od16, .func (PySem.W.fnOf "_law_at" "_law_at" (defArgs s__law_at) (defBody s__law_at) (defScope s__law_at) .none kV16 dc16 pm16 an16 cd16 ct16), sl16⟩)
    (c16 : PySem.W.codeIn K cd16 "_law_at" = true) (k16 : PySem.W.keepIn K (.ref f16) = true)
    {f17 : Addr} {od17 an17 : Option Addr} {sl17 : Array (Option Value)} {oc17 kV17 dc17 pm17 cd17 ct17 : Value}
    (a17 : PySem.W.nsIn K mainGlobals "_law_places" = some (some (.ref f17))) (l17 : K.lookup f17 = some ⟨oc17, od17, .func (PySem.W.fnOf "_law_places" "_law_places" (defArgs s__law_places) (defBody s__law_places) (defScope s__law_places) .none kV17 dc17 pm17 an17 cd17 ct17), sl17⟩)
    (c17 : PySem.W.codeIn K cd17 "_law_places" = true) (k17 : PySem.W.keepIn K (.ref f17) = true)
    {f18 : Addr} {od18 an18 : Option Addr} {sl18 : Array (Option Value)} {oc18 kV18 dc18 pm18 cd18 ct18 : Value}
    (a18 : PySem.W.nsIn K mainGlobals "_law_deeds" = some (some (.ref f18))) (l18 : K.lookup f18 = some ⟨oc18, od18, .func (PySem.W.fnOf "_law_deeds" "_law_deeds" (defArgs s__law_deeds) (defBody s__law_deeds) (defScope s__law_deeds) .none kV18 dc18 pm18 an18 cd18 ct18), sl18⟩)
    (c18 : PySem.W.codeIn K cd18 "_law_deeds" = true) (k18 : PySem.W.keepIn K (.ref f18) = true)
    {f19 : Addr} {od19 an19 : Option Addr} {sl19 : Array (Option Value)} {oc19 kV19 dc19 pm19 cd19 ct19 : Value}
    (a19 : PySem.W.nsIn K mainGlobals "_law_lent" = some (some (.ref f19))) (l19 : K.lookup f19 = some ⟨oc19, od19, .func (PySem.W.fnOf "_law_lent" "_law_lent" (defArgs s__law_lent) (defBody s__law_lent) (defScope s__law_lent) .none kV19 dc19 pm19 an19 cd19 ct19), sl19⟩)
    (c19 : PySem.W.codeIn K cd19 "_law_lent" = true) (k19 : PySem.W.keepIn K (.ref f19) = true)
    {f20 : Addr} {od20 an20 : Option Addr} {sl20 : Array (Option Value)} {oc20 kV20 dc20 pm20 cd20 ct20 : Value}
    (a20 : PySem.W.nsIn K mainGlobals "_law_is_through" = some (some (.ref f20))) (l20 : K.lookup f20 = some ⟨oc20, od20, .func (PySem.W.fnOf "_law_is_through" "_law_is_through" (defArgs s__law_is_through) (defBody s__law_is_through) (defScope s__law_is_through) .none kV20 dc20 pm20 an20 cd20 ct20), sl20⟩)
    (c20 : PySem.W.codeIn K cd20 "_law_is_through" = true) (k20 : PySem.W.keepIn K (.ref f20) = true)
    {f21 : Addr} {od21 an21 : Option Addr} {sl21 : Array (Option Value)} {oc21 kV21 dc21 pm21 cd21 ct21 : Value}
    (a21 : PySem.W.nsIn K mainGlobals "_law_through" = some (some (.ref f21))) (l21 : K.lookup f21 = some ⟨oc21, od21, .func (PySem.W.fnOf "_law_through" "_law_through" (defArgs s__law_through) (defBody s__law_through) (defScope s__law_through) .none kV21 dc21 pm21 an21 cd21 ct21), sl21⟩)
    (c21 : PySem.W.codeIn K cd21 "_law_through" = true) (k21 : PySem.W.keepIn K (.ref f21) = true)
    {f22 : Addr} {od22 an22 : Option Addr} {sl22 : Array (Option Value)} {oc22 kV22 dc22 pm22 cd22 ct22 : Value}
    (a22 : PySem.W.nsIn K mainGlobals "_law_open" = some (some (.ref f22))) (l22 : K.lookup f22 = some ⟨oc22, od22, .func (PySem.W.fnOf "_law_open" "_law_open" (defArgs s__law_open) (defBody s__law_open) (defScope s__law_open) .none kV22 dc22 pm22 an22 cd22 ct22), sl22⟩)
    (c22 : PySem.W.codeIn K cd22 "_law_open" = true) (k22 : PySem.W.keepIn K (.ref f22) = true)
    {f23 : Addr} {od23 an23 : Option Addr} {sl23 : Array (Option Value)} {oc23 kV23 dc23 pm23 cd23 ct23 : Value}
    (a23 : PySem.W.nsIn K mainGlobals "_law_free_weave" = some (some (.ref f23))) (l23 : K.lookup f23 = some ⟨oc23, od23, .func (PySem.W.fnOf "_law_free_weave" "_law_free_weave" (defArgs s__law_free_weave) (defBody s__law_free_weave) (defScope s__law_free_weave) .none kV23 dc23 pm23 an23 cd23 ct23), sl23⟩)
    (c23 : PySem.W.codeIn K cd23 "_law_free_weave" = true) (k23 : PySem.W.keepIn K (.ref f23) = true)
    {f24 : Addr} {od24 an24 : Option Addr} {sl24 : Array (Option Value)} {oc24 kV24 dc24 pm24 cd24 ct24 : Value}
    (a24 : PySem.W.nsIn K mainGlobals "_law_right" = some (some (.ref f24))) (l24 : K.lookup f24 = some ⟨oc24, od24, .func (PySem.W.fnOf "_law_right" "_law_right" (defArgs s__law_right) (defBody s__law_right) (defScope s__law_right) .none kV24 dc24 pm24 an24 cd24 ct24), sl24⟩)
    (c24 : PySem.W.codeIn K cd24 "_law_right" = true) (k24 : PySem.W.keepIn K (.ref f24) = true)
    {f25 : Addr} {od25 an25 : Option Addr} {sl25 : Array (Option Value)} {oc25 kV25 dc25 pm25 cd25 ct25 : Value}
    (a25 : PySem.W.nsIn K mainGlobals "law" = some (some (.ref f25))) (l25 : K.lookup f25 = some ⟨oc25, od25, .func (PySem.W.fnOf "law" "law" (defArgs s_law) (defBody s_law) (defScope s_law) .none kV25 dc25 pm25 an25 cd25 ct25), sl25⟩)
    (c25 : PySem.W.codeIn K cd25 "law" = true) (k25 : PySem.W.keepIn K (.ref f25) = true)
    {C_Net : Addr} (ac_Net : PySem.W.nsIn K mainGlobals "Net" = some (some (.ref C_Net)))
    (pg_Net : PySem.W.plainGet K C_Net Str.empty = true) (hd_Net : PySem.W.hasDictIn K C_Net = true) (po_Net : PySem.W.plainOver K C_Net = true) (sa_Net : PySem.W.findIn K (.ref C_Net) "__setattr__" = some (some (.builtin "object.__setattr__"))) (mk_Net : PySem.W.makesIn K C_Net = true) (kc_Net : PySem.W.keepIn K (.ref C_Net) = true)
    (na_Net_body : PySem.W.findIn K (.ref C_Net) "body" = some none)
    (na_Net_tied : PySem.W.findIn K (.ref C_Net) "tied" = some none)
    {f_Net___init__ : Addr} {od_Net___init__ an_Net___init__ : Option Addr} {sl_Net___init__ : Array (Option Value)} {oc_Net___init__ kV_Net___init__ dc_Net___init__ pm_Net___init__ cd_Net___init__ ct_Net___init__ : Value}
    (a_Net___init__ : PySem.W.findIn K (.ref C_Net) "__init__" = some (some (.ref f_Net___init__))) (i_Net___init__ : PySem.W.isFn K (.ref f_Net___init__) = true) (l_Net___init__ : K.lookup f_Net___init__ = some ⟨oc_Net___init__, od_Net___init__, .func (PySem.W.fnOf "__init__" "Net.__init__" (defArgs s_Net___init__) (defBody s_Net___init__) (defScope s_Net___init__) .none kV_Net___init__ dc_Net___init__ pm_Net___init__ an_Net___init__ cd_Net___init__ ct_Net___init__), sl_Net___init__⟩)
    (c_Net___init__ : PySem.W.codeIn K cd_Net___init__ "Net.__init__" = true) (k_Net___init__ : PySem.W.keepIn K (.ref f_Net___init__) = true)
    {f_Net_roads_from : Addr} {od_Net_roads_from an_Net_roads_from : Option Addr} {sl_Net_roads_from : Array (Option Value)} {oc_Net_roads_from kV_Net_roads_from dc_Net_roads_from pm_Net_roads_from cd_Net_roads_from ct_Net_roads_from : Value}
    (a_Net_roads_from : PySem.W.findIn K (.ref C_Net) "roads_from" = some (some (.ref f_Net_roads_from))) (i_Net_roads_from : PySem.W.isFn K (.ref f_Net_roads_from) = true) (l_Net_roads_from : K.lookup f_Net_roads_from = some ⟨oc_Net_roads_from, od_Net_roads_from, .func (PySem.W.fnOf "roads_from" "Net.roads_from" (defArgs s_Net_roads_from) (defBody s_Net_roads_from) (defScope s_Net_roads_from) .none kV_Net_roads_from dc_Net_roads_from pm_Net_roads_from an_Net_roads_from cd_Net_roads_from ct_Net_roads_from), sl_Net_roads_from⟩)
    (c_Net_roads_from : PySem.W.codeIn K cd_Net_roads_from "Net.roads_from" = true) (k_Net_roads_from : PySem.W.keepIn K (.ref f_Net_roads_from) = true)
    {f_Net_are_apart : Addr} {od_Net_are_apart an_Net_are_apart : Option Addr} {sl_Net_are_apart : Array (Option Value)} {oc_Net_are_apart kV_Net_are_apart dc_Net_are_apart pm_Net_are_apart cd_Net_are_apart ct_Net_are_apart : Value}
    (a_Net_are_apart : PySem.W.findIn K (.ref C_Net) "are_apart" = some (some (.ref f_Net_are_apart))) (i_Net_are_apart : PySem.W.isFn K (.ref f_Net_are_apart) = true) (l_Net_are_apart : K.lookup f_Net_are_apart = some ⟨oc_Net_are_apart, od_Net_are_apart, .func (PySem.W.fnOf "are_apart" "Net.are_apart" (defArgs s_Net_are_apart) (defBody s_Net_are_apart) (defScope s_Net_are_apart) .none kV_Net_are_apart dc_Net_are_apart pm_Net_are_apart an_Net_are_apart cd_Net_are_apart ct_Net_are_apart), sl_Net_are_apart⟩)
    (c_Net_are_apart : PySem.W.codeIn K cd_Net_are_apart "Net.are_apart" = true) (k_Net_are_apart : PySem.W.keepIn K (.ref f_Net_are_apart) = true)
    {f_Net_is_before : Addr} {od_Net_is_before an_Net_is_before : Option Addr} {sl_Net_is_before : Array (Option Value)} {oc_Net_is_before kV_Net_is_before dc_Net_is_before pm_Net_is_before cd_Net_is_before ct_Net_is_before : Value}
    (a_Net_is_before : PySem.W.findIn K (.ref C_Net) "is_before" = some (some (.ref f_Net_is_before))) (i_Net_is_before : PySem.W.isFn K (.ref f_Net_is_before) = true) (l_Net_is_before : K.lookup f_Net_is_before = some ⟨oc_Net_is_before, od_Net_is_before, .func (PySem.W.fnOf "is_before" "Net.is_before" (defArgs s_Net_is_before) (defBody s_Net_is_before) (defScope s_Net_is_before) .none kV_Net_is_before dc_Net_is_before pm_Net_is_before an_Net_is_before cd_Net_is_before ct_Net_is_before), sl_Net_is_before⟩)
    (c_Net_is_before : PySem.W.codeIn K cd_Net_is_before "Net.is_before" = true) (k_Net_is_before : PySem.W.keepIn K (.ref f_Net_is_before) = true)
    (z0 : PySem.W.nsIn K mainGlobals "all" = some none)
    (z1 : PySem.W.nsIn K mainGlobals "bool" = some none)
    (z2 : PySem.W.nsIn K mainGlobals "enumerate" = some none)
    (z3 : PySem.W.nsIn K mainGlobals "int" = some none)
    (z4 : PySem.W.nsIn K mainGlobals "isinstance" = some none)
    (z5 : PySem.W.nsIn K mainGlobals "len" = some none)
    (z6 : PySem.W.nsIn K mainGlobals "list" = some none)
    (z7 : PySem.W.nsIn K mainGlobals "max" = some none)
    (z8 : PySem.W.nsIn K mainGlobals "min" = some none)
    (z9 : PySem.W.nsIn K mainGlobals "range" = some none)
    (z10 : PySem.W.nsIn K mainGlobals "tuple" = some none)
    (z11 : PySem.W.nsIn K mainGlobals "zip" = some none)
    : ∃ fd : FuncData, (∀ (s : Shared) (v : Value), BindsTo s fd ⟨[v], []⟩ [("script", v)]) ∧ ∀ base : Heap, K.In base → base.Ns mainGlobals mg → FnOk l.prog w K mg base (CX l.prog w) 138 fa fd ["script"] (spOf l.prog w K sp_law) := by
  cases hfa.symm.trans (PySem.W.mg_of X G a25)
  have F0 := fun_mk (st := s_parts_of) l0 c0 k0
  have D_parts_of : Def K mg "parts_of" s_parts_of ["term"] := ⟨f0, _, F0, PySem.W.mg_of X G a0, F0.binds (ps := ["term"]) fun _ _ _ _ _ _ us hl => match us, hl with | [_], _ => rfl⟩
  have F1 := fun_mk (st := s_places_in) l1 c1 k1
  have D_places_in : Def K mg "places_in" s_places_in ["term", "place"] := ⟨f1, _, F1, PySem.W.mg_of X G a1, F1.binds (ps := ["term", "place"]) fun _ _ _ _ _ _ us hl => match us, hl with | [_, _], _ => rfl⟩
  have F2 := fun_mk (st := s_term_in) l2 c2 k2
  have D_term_in : Def K mg "term_in" s_term_in ["body", "place"] := ⟨f2, _, F2, PySem.W.mg_of X G a2, F2.binds (ps := ["body", "place"]) fun _ _ _ _ _ _ us hl => match us, hl with | [_, _], _ => rfl⟩
  have F3 := fun_mk (st := s_lent_places) l3 c3 k3
  have D_lent_places : Def K mg "lent_places" s_lent_places ["body"] := ⟨f3, _, F3, PySem.W.mg_of X G a3, F3.binds (ps := ["body"]) fun _ _ _ _ _ _ us hl => match us, hl with | [_], _ => rfl⟩
  have F4 := fun_mk (st := s_points_behind) l4 c4 k4
  have D_points_behind : Def K mg "points_behind" s_points_behind ["body", "place", "term"] := ⟨f4, _, F4, PySem.W.mg_of X G a4, F4.binds (ps := ["body", "place", "term"]) fun _ _ _ _ _ _ us hl => match us, hl with | [_, _, _], _ => rfl⟩
  have F5 := fun_mk (st := s_is_before) l5 c5 k5
  have D_is_before : Def K mg "is_before" s_is_before ["book", "p", "q"] := ⟨f5, _, F5, PySem.W.mg_of X G a5, F5.binds (ps := ["book", "p", "q"]) fun _ _ _ _ _ _ us hl => match us, hl with | [_, _, _], _ => rfl⟩
  have F6 := fun_mk (st := s_are_apart) l6 c6 k6
  have D_are_apart : Def K mg "are_apart" s_are_apart ["book", "p", "q"] := ⟨f6, _, F6, PySem.W.mg_of X G a6, F6.binds (ps := ["book", "p", "q"]) fun _ _ _ _ _ _ us hl => match us, hl with | [_, _, _], _ => rfl⟩
  have F7 := fun_mk (st := s__law_cell_at) l7 c7 k7
  have D__law_cell_at : Def K mg "_law_cell_at" s__law_cell_at ["script", "k"] := ⟨f7, _, F7, PySem.W.mg_of X G a7, F7.binds (ps := ["script", "k"]) fun _ _ _ _ _ _ us hl => match us, hl with | [_, _], _ => rfl⟩
  have F8 := fun_mk (st := s__law_tape) l8 c8 k8
  have D__law_tape : Def K mg "_law_tape" s__law_tape ["script", "k"] := ⟨f8, _, F8, PySem.W.mg_of X G a8, F8.binds (ps := ["script", "k"]) fun _ _ _ _ _ _ us hl => match us, hl with | [_, _], _ => rfl⟩
  have F9 := fun_mk (st := s__law_digit) l9 c9 k9
  have D__law_digit : Def K mg "_law_digit" s__law_digit ["tape", "many"] := ⟨f9, _, F9, PySem.W.mg_of X G a9, F9.binds (ps := ["tape", "many"]) fun _ _ _ _ _ _ us hl => match us, hl with | [_, _], _ => rfl⟩
  have F10 := fun_mk (st := s__law_shares) l10 c10 k10
  have D__law_shares : Def K mg "_law_shares" s__law_shares ["tape", "room", "many"] := ⟨f10, _, F10, PySem.W.mg_of X G a10, F10.binds (ps := ["tape", "room", "many"]) fun _ _ _ _ _ _ us hl => match us, hl with | [_, _, _], _ => rfl⟩
  have F11 := fun_mk (st := s__law_deed) l11 c11 k11
  have D__law_deed : Def K mg "_law_deed" s__law_deed ["tape", "known"] := ⟨f11, _, F11, PySem.W.mg_of X G a11, F11.binds (ps := ["tape", "known"]) fun _ _ _ _ _ _ us hl => match us, hl with | [_, _], _ => rfl⟩
  have F12 := fun_mk (st := s__law_leaf) l12 c12 k12
  have D__law_leaf : Def K mg "_law_leaf" s__law_leaf ["tape", "known", "around"] := ⟨f12, _, F12, PySem.W.mg_of X G a12, F12.binds (ps := ["tape", "known", "around"]) fun _ _ _ _ _ _ us hl => match us, hl with | [_, _, _], _ => rfl⟩
  have F13 := fun_mk (st := s__law_term) l13 c13 k13
  have D__law_term : Def K mg "_law_term" s__law_term ["tape", "known", "around", "room", "deep"] := ⟨f13, _, F13, PySem.W.mg_of X G a13, F13.binds (ps := ["tape", "known", "around", "room", "deep"]) fun _ _ _ _ _ _ us hl => match us, hl with | [_, _, _, _, _], _ => rfl⟩
  have F14 := fun_mk (st := s__law_book) l14 c14 k14
  have D__law_book : Def K mg "_law_book" s__law_book ["script", "start", "lends"] := ⟨f14, _, F14, PySem.W.mg_of X G a14, F14.binds (ps := ["script", "start", "lends"]) fun _ _ _ _ _ _ us hl => match us, hl with | [_, _, _], _ => rfl⟩
  have F15 := fun_mk (st := s__law_parts) l15 c15 k15
  have D__law_parts : Def K mg "_law_parts" s__law_parts ["term"] := ⟨f15, _, F15, PySem.W.mg_of X G a15, F15.binds (ps := ["term"]) fun _ _ _ _ _ _ us hl => match us, hl with | [_], _ => rfl⟩
  have F16 := fun_mk (st := s__law_at) l16 c16 k16
  have D__law_at : Def K mg "_law_at" s__law_at ["body", "place"] := ⟨f16, _, F16, PySem.W.mg_of X G a16, F16.binds (ps := ["body", "place"]) fun _ _ _ _ _ _ us hl => match us, hl with | [_, _], _ => rfl⟩
  have F17 := fun_mk (st := s__law_places) l17 c17 k17
  have D__law_places : Def K mg "_law_places" s__law_places ["term", "place"] := ⟨f17, _, F17, PySem.W.mg_of X G a17, F17.binds (ps := ["term", "place"]) fun _ _ _ _ _ _ us hl => match us, hl with | [_, _], _ => rfl⟩
  have F18 := fun_mk (st := s__law_deeds) l18 c18 k18
  have D__law_deeds : Def K mg "_law_deeds" s__law_deeds ["body"] := ⟨f18, _, F18, PySem.W.mg_of X G a18, F18.binds (ps := ["body"]) fun _ _ _ _ _ _ us hl => match us, hl with | [_], _ => rfl⟩
  have F19 := fun_mk (st := s__law_lent) l19 c19 k19
  have D__law_lent : Def K mg "_law_lent" s__law_lent ["body"] := ⟨f19, _, F19, PySem.W.mg_of X G a19, F19.binds (ps := ["body"]) fun _ _ _ _ _ _ us hl => match us, hl with | [_], _ => rfl⟩
  have F20 := fun_mk (st := s__law_is_through) l20 c20 k20
  have D__law_is_through : Def K mg "_law_is_through" s__law_is_through ["now", "term", "place"] := ⟨f20, _, F20, PySem.W.mg_of X G a20, F20.binds (ps := ["now", "term", "place"]) fun _ _ _ _ _ _ us hl => match us, hl with | [_, _, _], _ => rfl⟩
  have F21 := fun_mk (st := s__law_through) l21 c21 k21
  have D__law_through : Def K mg "_law_through" s__law_through ["now", "place"] := ⟨f21, _, F21, PySem.W.mg_of X G a21, F21.binds (ps := ["now", "place"]) fun _ _ _ _ _ _ us hl => match us, hl with | [_, _], _ => rfl⟩
  have F22 := fun_mk (st := s__law_open) l22 c22 k22
  have D__law_open : Def K mg "_law_open" s__law_open ["now", "place"] := ⟨f22, _, F22, PySem.W.mg_of X G a22, F22.binds (ps := ["now", "place"]) fun _ _ _ _ _ _ us hl => match us, hl with | [_, _], _ => rfl⟩
  have F23 := fun_mk (st := s__law_free_weave) l23 c23 k23
  have D__law_free_weave : Def K mg "_law_free_weave" s__law_free_weave ["tape", "body", "off", "aims"] := ⟨f23, _, F23, PySem.W.mg_of X G a23, F23.binds (ps := ["tape", "body", "off", "aims"]) fun _ _ _ _ _ _ us hl => match us, hl with | [_, _, _, _], _ => rfl⟩
  have F24 := fun_mk (st := s__law_right) l24 c24 k24
  have D__law_right : Def K mg "_law_right" s__law_right ["tape", "book", "p", "q"] := ⟨f24, _, F24, PySem.W.mg_of X G a24, F24.binds (ps := ["tape", "book", "p", "q"]) fun _ _ _ _ _ _ us hl => match us, hl with | [_, _, _, _], _ => rfl⟩
  have F25 := fun_mk (st := s_law) l25 c25 k25
  have kl_Net : Klass K mg "Net" C_Net ["body", "tied"] := ⟨⟨pg_Net, hd_Net, po_Net, sa_Net⟩, fun f hf => (List.mem_cons.mp hf).elim (fun e => e ▸ na_Net_body) (fun hf => (List.mem_cons.mp hf).elim (fun e => e ▸ na_Net_tied) (fun hf => (nomatch hf))), PySem.W.mg_of X G ac_Net⟩
  have F_Net___init__ := fun_mk (st := s_Net___init__) l_Net___init__ c_Net___init__ k_Net___init__
  have D_Net___init__ : DefI K C_Net "Net.__init__" s_Net___init__ ["self", "book"] := ⟨f_Net___init__, _, F_Net___init__, ⟨mk_Net, a_Net___init__, i_Net___init__, kc_Net⟩, F_Net___init__.binds (ps := ["self", "book"]) fun _ _ _ _ _ _ us hl => match us, hl with | [_, _], _ => rfl⟩
  have F_Net_roads_from := fun_mk (st := s_Net_roads_from) l_Net_roads_from c_Net_roads_from k_Net_roads_from
  have D_Net_roads_from : DefM K C_Net "roads_from" "Net.roads_from" s_Net_roads_from ["self", "start"] := ⟨f_Net_roads_from, _, F_Net_roads_from, ⟨a_Net_roads_from, i_Net_roads_from, k_Net_roads_from⟩, F_Net_roads_from.binds (ps := ["self", "start"]) fun _ _ _ _ _ _ us hl => match us, hl with | [_, _], _ => rfl⟩
  have F_Net_are_apart := fun_mk (st := s_Net_are_apart) l_Net_are_apart c_Net_are_apart k_Net_are_apart
  have D_Net_are_apart : DefM K C_Net "are_apart" "Net.are_apart" s_Net_are_apart ["self", "p", "q"] := ⟨f_Net_are_apart, _, F_Net_are_apart, ⟨a_Net_are_apart, i_Net_are_apart, k_Net_are_apart⟩, F_Net_are_apart.binds (ps := ["self", "p", "q"]) fun _ _ _ _ _ _ us hl => match us, hl with | [_, _, _], _ => rfl⟩
  have F_Net_is_before := fun_mk (st := s_Net_is_before) l_Net_is_before c_Net_is_before k_Net_is_before
  have D_Net_is_before : DefM K C_Net "is_before" "Net.is_before" s_Net_is_before ["self", "p", "q"] := ⟨f_Net_is_before, _, F_Net_is_before, ⟨a_Net_is_before, i_Net_is_before, k_Net_is_before⟩, F_Net_is_before.binds (ps := ["self", "p", "q"]) fun _ _ _ _ _ _ us hl => match us, hl with | [_, _, _], _ => rfl⟩
  have b_all := PySem.W.mg_none_of X G z0
  have b_bool := PySem.W.mg_none_of X G z1
  have b_enumerate := PySem.W.mg_none_of X G z2
  have b_int := PySem.W.mg_none_of X G z3
  have b_isinstance := PySem.W.mg_none_of X G z4
  have b_len := PySem.W.mg_none_of X G z5
  have b_list := PySem.W.mg_none_of X G z6
  have b_max := PySem.W.mg_none_of X G z7
  have b_min := PySem.W.mg_none_of X G z8
  have b_range := PySem.W.mg_none_of X G z9
  have b_tuple := PySem.W.mg_none_of X G z10
  have b_zip := PySem.W.mg_none_of X G z11
  have F_law := F25
  refine ⟨PySem.W.fnOf "law" "law" (defArgs s_law) (defBody s_law) (defScope s_law) .none kV25 dc25 pm25 an25 cd25 ct25, fun s v => .of_eq rfl, fun base _ _ => ?_⟩
  have C_parts := cal_parts_of (P := l.prog) (w := w) (base := base) D_parts_of
  have C_places := cal_places_in (P := l.prog) (w := w) (base := base) D_places_in b_enumerate C_parts 13
  have C_ti := cal_term_in D_term_in C_parts
  have C_lp := cal_lent_places D_lent_places C_places C_ti
  have C_pb := cal_points_behind D_points_behind b_range b_len b_zip C_parts
  have I_Net := ini_Net D_Net___init__ kl_Net C_lp C_places C_ti C_pb
  have M_rf := met_roads_from (P := l.prog) (w := w) (base := base) D_Net_roads_from kl_Net b_len
  have M_ap := met_are_apart D_Net_are_apart kl_Net b_len b_min C_ti
  have M_ib := met_is_before D_Net_is_before kl_Net M_ap M_rf
  have C_ib := cal_is_before D_is_before kl_Net I_Net M_ib
  have C_aa := cal_are_apart D_are_apart kl_Net I_Net M_ap
  have C_lpa := cal__law_parts (P := l.prog) (w := w) (base := base) D__law_parts
  have C_lpl := cal__law_places D__law_places b_enumerate C_lpa 13
  have C_la := cal__law_at D__law_at C_lpa
  have C_ll := cal__law_lent D__law_lent C_lpl C_la
  have C_ld := cal__law_deeds D__law_deeds C_lpl C_la
  have C_bk := gen_book (P := l.prog) (w := w) (base := base) D__law_cell_at D__law_tape D__law_digit D__law_shares D__law_deed D__law_leaf D__law_term D__law_book b_int b_len b_range b_list b_tuple b_min
  have C_ca := cal_cell_at (P := l.prog) (w := w) (base := base) D__law_cell_at b_len
  have C_tp := cal_tape D__law_tape C_ca
  have C_dg := cal_digit (P := l.prog) (w := w) (base := base) D__law_digit
  have C_th := thr_all (cal__law_through (P := l.prog) (w := w) (base := base) D__law_through D__law_is_through b_all b_range b_len C_la)
  have C_op := open_all (cal__law_open D__law_open b_int b_range b_len C_la C_th)
  have C_fw := cal__law_free_weave D__law_free_weave b_len C_ll C_op C_dg
  have C_ri := cal__law_right D__law_right b_isinstance b_bool C_ib C_aa C_fw
  exact ok_law F_law b_range b_max b_min b_len b_int C_bk C_tp C_ld C_dg C_ri
end Sw
open PySem PySem.W PyProof.Rows
set_option maxRecDepth 100000 in
set_option maxHeartbeats 0 in
theorem PySem.Challenge.cw_sidework_k14_whole_before_in_each_weave_holds : PySem.Challenge.rw_sidework_k14_whole_before_in_each_weave.Holds := by
  w_on; o_law; k_head; (case hw => w_witness2)
  k_fill
  refine Sw.sw_walk (l := PySem.Challenge.rw_sidework_k14_whole_before_in_each_weave) (k := 138) rfl rfl (fun w h Y => PySem.W.kIn_of Y) ⟨rfl, by decide, by decide⟩ (fun P => rfl) ?F
  case F =>
    intro w mg fa h KX G hmg
    refine' Sw.all_mk KX G hmg ?a0 ?l0 ?c0 ?k0 ?a1 ?l1 ?c1 ?k1 ?a2 ?l2 ?c2 ?k2 ?a3 ?l3 ?c3 ?k3 ?a4 ?l4 ?c4 ?k4 ?a5 ?l5 ?c5 ?k5 ?a6 ?l6 ?c6 ?k6 ?a7 ?l7 ?c7 ?k7 ?a8 ?l8 ?c8 ?k8 ?a9 ?l9 ?c9 ?k9 ?a10 ?l10 ?c10 ?k10 ?a11 ?l11 ?c11 ?k11 ?a12 ?l12 ?c12 ?k12 ?a13 ?l13 ?c13 ?k13 ?a14 ?l14 ?c14 ?k14 ?a15 ?l15 ?c15 ?k15 ?a16 ?l16 ?c16 ?k16 ?a17 ?l17 ?c17 ?k17 ?a18 ?l18 ?c18 ?k18 ?a19 ?l19 ?c19 ?k19 ?a20 ?l20 ?c20 ?k20 ?a21 ?l21 ?c21 ?k21 ?a22 ?l22 ?c22 ?k22 ?a23 ?l23 ?c23 ?k23 ?a24 ?l24 ?c24 ?k24 ?a25 ?l25 ?c25 ?k25 ?ac_Net ?pg_Net ?hd_Net ?po_Net ?sa_Net ?mk_Net ?kc_Net ?na_Net_body ?na_Net_tied ?a_Net___init__ ?i_Net___init__ ?l_Net___init__ ?c_Net___init__ ?k_Net___init__ ?a_Net_roads_from ?i_Net_roads_from ?l_Net_roads_from ?c_Net_roads_from ?k_Net_roads_from ?a_Net_are_apart ?i_Net_are_apart ?l_Net_are_apart ?c_Net_are_apart ?k_Net_are_apart ?a_Net_is_before ?i_Net_is_before ?l_Net_is_before ?c_Net_is_before ?k_Net_is_before ?z0 ?z1 ?z2 ?z3 ?z4 ?z5 ?z6 ?z7 ?z8 ?z9 ?z10 ?z11
    (case a0 => k_is)
    (case l0 => k_is)
    (case c0 => k_is)
    (case k0 => k_is)
    (case a1 => k_is)
    (case l1 => k_is)
    (case c1 => k_is)
    (case k1 => k_is)
    (case a2 => k_is)
    (case l2 => k_is)
    (case c2 => k_is)
    (case k2 => k_is)
    (case a3 => k_is)
    (case l3 => k_is)
    (case c3 => k_is)
    (case k3 => k_is)
    (case a4 => k_is)
    (case l4 => k_is)
    (case c4 => k_is)
    (case k4 => k_is)
    (case a5 => k_is)
    (case l5 => k_is)
    (case c5 => k_is)
    (case k5 => k_is)
    (case a6 => k_is)
    (case l6 => k_is)
    (case c6 => k_is)
    (case k6 => k_is)
    (case a7 => k_is)
    (case l7 => k_is)
    (case c7 => k_is)
    (case k7 => k_is)
    (case a8 => k_is)
    (case l8 => k_is)
    (case c8 => k_is)
    (case k8 => k_is)
    (case a9 => k_is)
    (case l9 => k_is)
    (case c9 => k_is)
    (case k9 => k_is)
    (case a10 => k_is)
    (case l10 => k_is)
    (case c10 => k_is)
    (case k10 => k_is)
    (case a11 => k_is)
    (case l11 => k_is)
    (case c11 => k_is)
    (case k11 => k_is)
    (case a12 => k_is)
    (case l12 => k_is)
    (case c12 => k_is)
    (case k12 => k_is)
    (case a13 => k_is)
    (case l13 => k_is)
    (case c13 => k_is)
    (case k13 => k_is)
    (case a14 => k_is)
    (case l14 => k_is)
    (case c14 => k_is)
    (case k14 => k_is)
    (case a15 => k_is)
    (case l15 => k_is)
    (case c15 => k_is)
    (case k15 => k_is)
    (case a16 => k_is)
    (case l16 => k_is)
    (case c16 => k_is)
    (case k16 => k_is)
    (case a17 => k_is)
    (case l17 => k_is)
    (case c17 => k_is)
    (case k17 => k_is)
    (case a18 => k_is)
    (case l18 => k_is)
    (case c18 => k_is)
    (case k18 => k_is)
    (case a19 => k_is)
    (case l19 => k_is)
    (case c19 => k_is)
    (case k19 => k_is)
    (case a20 => k_is)
    (case l20 => k_is)
    (case c20 => k_is)
    (case k20 => k_is)
    (case a21 => k_is)
    (case l21 => k_is)
    (case c21 => k_is)
    (case k21 => k_is)
    (case a22 => k_is)
    (case l22 => k_is)
    (case c22 => k_is)
    (case k22 => k_is)
    (case a23 => k_is)
    (case l23 => k_is)
    (case c23 => k_is)
    (case k23 => k_is)
    (case a24 => k_is)
    (case l24 => k_is)
    (case c24 => k_is)
    (case k24 => k_is)
    (case a25 => k_is)
    (case l25 => k_is)
    (case c25 => k_is)
    (case k25 => k_is)
    (case ac_Net => k_is)
    (case pg_Net => k_is)
    (case hd_Net => k_is)
    (case po_Net => k_is)
    (case sa_Net => k_is)
    (case mk_Net => k_is)
    (case kc_Net => k_is)
    (case na_Net_body => k_is)
    (case na_Net_tied => k_is)
    (case a_Net___init__ => k_is)
    (case i_Net___init__ => k_is)
    (case l_Net___init__ => k_is)
    (case c_Net___init__ => k_is)
    (case k_Net___init__ => k_is)
    (case a_Net_roads_from => k_is)
    (case i_Net_roads_from => k_is)
    (case l_Net_roads_from => k_is)
    (case c_Net_roads_from => k_is)
    (case k_Net_roads_from => k_is)
    (case a_Net_are_apart => k_is)
    (case i_Net_are_apart => k_is)
    (case l_Net_are_apart => k_is)
    (case c_Net_are_apart => k_is)
    (case k_Net_are_apart => k_is)
    (case a_Net_is_before => k_is)
    (case i_Net_is_before => k_is)
    (case l_Net_is_before => k_is)
    (case c_Net_is_before => k_is)
    (case k_Net_is_before => k_is)
    (case z0 => k_is)
    (case z1 => k_is)
    (case z2 => k_is)
    (case z3 => k_is)
    (case z4 => k_is)
    (case z5 => k_is)
    (case z6 => k_is)
    (case z7 => k_is)
    (case z8 => k_is)
    (case z9 => k_is)
    (case z10 => k_is)
    (case z11 => k_is)
#print axioms PySem.Challenge.cw_sidework_k14_whole_before_in_each_weave_holds
