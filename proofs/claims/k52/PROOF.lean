import PyProof.Rows.All
import Wide.All
import OpenK.AllK
import Wide.FinOn
import HandS.ForMost
import HandS.SetFor
import HandS.Strs
import HandS.Deep
import HandS.Style
import HandS.Zip
import HandS.TupAny
import HandS.Conv
import HandS.TupLen
import HandS.Small
import PySem.Challenge.RW_tablewright_k52_solutions_and_shares
set_option Elab.async false
set_option linter.all false
set_option maxRecDepth 100000
set_option maxHeartbeats 4000000
/-! Ev0: set(xs) of a list of ints, and sorted of it -/
namespace Ev
open PySem PySem.Spec PyProof.Rows L2
/-- an empty set as it is laid -/
abbrev bareSet (w : World) : Obj := { cls := .type "set", dict := none, data := .set #[] 0 (.fresh 0 0 (!w.params.followText "set-order")) }
section
variable {P : Program} {w : World} {A : Around} {E : Value → Shared → Prop} {s : Shared}
theorem fill_set {l : Addr} {items : Array Value} (ns : List Int) (hh : A.handled = none) (hl : s.heap.IsList l items) (hit : IntsAre items.toList ns) (hb : ns.length + 1 < scanBound) (R : Result → Shared → Prop)
    (hR : ∀ (h' : Heap) (tk c : Nat), SetR w h' s.heap.objs.size (fun j => decide (j ∈ ns)) c → c ≤ ns.length → (∀ b o, s.heap.get? b = some o → h'.get? b = some o) → R (.ok (.ret .none)) { s with heap := h', toks := tk }) :
    codeAny (model P w) A (.builtin "set.update.loop" ⟨[.ref s.heap.objs.size, .ref (s.heap.objs.size + 1)], []⟩) R
      { s with heap := (s.heap.push (bareSet w)).push { cls := .type "list_iterator", data := .fields #[.ref l, .int 0 0] } } := by
  have en : items.size = ns.length := by rw [← hit.length, Array.length_toList]
  have hlt : l < s.heap.objs.size := by obtain ⟨o, e, _⟩ := hl; exact Heap.lt_size e
  have s1 : (s.heap.push (bareSet w)).objs.size = s.heap.objs.size + 1 := Heap.size_push ..
  have a1 : l ≠ s.heap.objs.size + 1 := Nat.ne_of_lt (Nat.lt_succ_of_lt hlt)
  have a2 : s.heap.objs.size ∉ [s.heap.objs.size + 1, l] := by
    intro z
    rcases List.mem_cons.mp z with z | z
    · exact absurd z (Nat.ne_of_lt (Nat.lt_succ_self _))
    · have z' := List.mem_singleton.mp z
      rw [z'] at hlt
      exact Nat.lt_irrefl _ hlt
  have val : ∀ (i : Nat) (v : Value), items[i]? = some v → ∃ k t, ns[i]? = some k ∧ v = .int k t := by
    intro i v hv
    have hi : i < ns.length := by rw [← en]; exact (Array.getElem?_eq_some_iff.mp hv).1
    obtain ⟨t, e⟩ := IntsAre.int_at hit i v (by rw [Array.getElem?_toList]; exact hv)
    exact ⟨ns[i], t, List.getElem?_eq_getElem hi, by rw [e, List.getD_eq_getElem?_getD, List.getElem?_eq_getElem hi]; rfl⟩
  have it1 : ((s.heap.push (bareSet w)).push { cls := .type "list_iterator", data := .fields #[.ref l, .int 0 0] }).get? (s.heap.objs.size + 1) = some { cls := .type "list_iterator", data := .fields #[.ref l, .int 0 0] } := by
    rw [← s1]
    exact Heap.get?_push_size _ rfl
  have st1 : ((s.heap.push (bareSet w)).push { cls := .type "list_iterator", data := .fields #[.ref l, .int 0 0] }).get? s.heap.objs.size = some (bareSet w) := Heap.get?_push_of_some _ (Heap.get?_push_size _ rfl)
  refine set_update_ints ((Walks.list (A := A.in1) (by simpa using hh) (s.heap.objs.size + 1) l a1 items).toS) s.heap.objs.size a2 ns en hb val (items.size - 0) 0 _ rfl (Nat.zero_le _) ⟨⟨_, it1, rfl, rfl⟩, (hl.push _).push _⟩ ⟨0, Nat.le_refl 0, setR_new_at st1⟩ fun s' c m hc hS => ?_
  obtain ⟨h', g', d', tk', os'⟩ := s'
  obtain rfl : g' = s.gens := m.gens
  obtain rfl : d' = s.drawn := m.drawn
  obtain rfl : os' = s.os := m.os
  refine hR h' tk' c hS (by omega) fun b o e => m.heap b o ?_ (Heap.get?_push_of_some _ (Heap.get?_push_of_some _ e))
  have hbl := Heap.lt_size e
  intro z
  rcases List.mem_cons.mp z with z | z
  · exact absurd z (Nat.ne_of_lt hbl)
  · exact absurd (List.mem_singleton.mp z) (Nat.ne_of_lt (Nat.lt_succ_of_lt hbl))
set_option maxHeartbeats 8000000 in
/-- set(xs), xs a list of ints -/
theorem set_of_ints {l : Addr} {items : Array Value} (ns : List Int) {Q : Value → Shared → Prop} (hh : A.handled = none) (hl : s.heap.IsList l items) (hit : IntsAre items.toList ns) (hb : ns.length + 1 < scanBound)
    (hQ : ∀ (h' : Heap) (tk c : Nat), SetR w h' s.heap.objs.size (fun j => decide (j ∈ ns)) c → c ≤ ns.length → (∀ b o, s.heap.get? b = some o → h'.get? b = some o) → Q (.ref s.heap.objs.size) { s with heap := h', toks := tk }) :
    wpAny (model P w) A (call (.type "set") [.ref l]) Q E s := by
  have k1 := PySem.F.called_set.notType
  have k2 := PySem.F.called_set.canCreate
  have k3 := PySem.F.typeCall_set_1 (.ref l)
  have k4 := PySem.F.called_set.made
  have k5 := PySem.F.called_set.sub
  obtain ⟨c, tl, k6⟩ := PySem.F.called_set.mro
  apply wpAny_call
  apply codeAny_of_tree
  show wpAny _ _ (callAny (.type "set") _) _ _ _
  apply wpAny_pure
  refine ⟨Code.quiet_builtin _ (by decide +kernel), codeAny_builtin PySem.F.entry_type_call ?_⟩
  rw [Around.under_plain (weight_type_call_type "set" [.ref l] []) rfl]
  repeat (any_goals (first | assumption | wp_step))
  apply codeAny_mono (code_set_led1 (.ref l) (E := E) (Q₁ := fun obj t => obj = .ref s.heap.objs.size ∧ t = { s with heap := s.heap.push (bareSet w) }) ⟨rfl, rfl⟩)
  intro r t hr
  match r, hr with
  | .error e, hr => exact hr
  | .ok .next, hr => exact hr.elim
  | .ok .brk, hr => exact hr.elim
  | .ok .cont, hr => exact hr.elim
  | .ok (.ret obj), hr =>
    obtain ⟨rfl, rfl⟩ := hr
    have o1 : (s.heap.push (bareSet w)).get? s.heap.objs.size = some (bareSet w) := Heap.get?_push_size _ rfl
    have ty : Shared.TypeIs { s with heap := s.heap.push (bareSet w) } (.ref s.heap.objs.size) "set" := ⟨_, o1, rfl⟩
    have i1 := PySem.F.called_set.init.lookup
    have i2 := PySem.F.called_set.init.bind (.ref s.heap.objs.size)
    repeat (any_goals (first | assumption | wp_step))
    apply codeAny_mono (codeAny_call_builtin (R := wants (fun r t => r = .none ∧ ∃ h' tk c, t = { s with heap := h', toks := tk } ∧ SetR w h' s.heap.objs.size (fun j => decide (j ∈ ns)) c ∧ c ≤ ns.length ∧ (∀ b o, s.heap.get? b = some o → h'.get? b = some o)) E)
      PySem.F.called_set.init.plain PySem.F.entry_set_init (check_set_init_1 ty ?body))
    case body =>
      obtain ⟨⟨cl, od, da, sl⟩, e, rfl, n, rfl⟩ := hl
      have e' : (s.heap.push (bareSet w)).get? l = some { cls := .type "list", dict := od, data := .seq items n, slots := sl } := Heap.get?_push_of_some _ e
      have q1 := PySem.F.sub_list_set
      have q2 := PySem.F.sub_list_frozenset
      have q3 : (Value.type "list" == Value.type "dict") = false := by decide
      have il : (s.heap.push (bareSet w)).IsList l items := ⟨_, e', rfl, n, rfl⟩
      unfold Builtin.«set.__init__» noKeywords Builtin.Frozenset.updateFrom
      generalize hP : pyIter = PI
      wp_walk
      subst hP
      refine wpAny_pyIter_list il ?_
      refine wpAny_bind (wpAny_runValue ?_)
      have s1 : (s.heap.push (bareSet w)).objs.size = s.heap.objs.size + 1 := Heap.size_push ..
      simp only [s1]
      refine fill_set (A := _) (items := items) ns (by simp [hh]) ⟨_, e, rfl, n, rfl⟩ hit hb _ fun h' tk c x1 x2 x3 => ?_
      refine wpAny_pure ?_
      exact wpAny_pure ⟨rfl, h', tk, c, rfl, x1, x2, x3⟩
    intro r2 t2 hr2
    match r2, hr2 with
    | .error e, hr2 => exact hr2
    | .ok .next, hr2 => exact hr2.elim
    | .ok .brk, hr2 => exact hr2.elim
    | .ok .cont, hr2 => exact hr2.elim
    | .ok (.ret v), hr2 =>
      obtain ⟨rfl, h', tk, c, rfl, x1, x2, x3⟩ := hr2
      repeat (any_goals (first | assumption | wp_step))
      exact hQ _ _ _ x1 x2 x3
end
end Ev
/-! Ev1: data and how values stand for them -/
namespace Ev
open PySem PySem.Spec PyProof.Rows L2
/-- the law's own state: objects that helpers change; the script -/
def StA (a c : Addr) (H : Hp) : Prop := ∃ (n : Int) (cells : List Int), H a = some (.lst [.int n, .ref c]) ∧ H c = some (.lst (cells.map V.int)) ∧ 0 < cells.length ∧ cells.length < 64 ∧ ∀ x ∈ cells, 0 ≤ x
structure Zs where
  root : Option Addr
  scr : Option Addr
  dom : List Addr
  ok : Hp → Prop
  loc : ∀ H H' : Hp, (∀ b, b ∈ dom → H b = H' b) → ok H → ok H'
  gA : ∀ a, root = some a → ∃ c, a ≠ c ∧ dom = [a, c] ∧ ∀ H, ok H ↔ StA a c H
abbrev stD : PyData := .dict [(.none, .none)]
abbrev scD : PyData := .dict [(.none, .bool true)]
def kOf : PyData → Option Key
  | .int i => some (.inl i)
  | .str s => some (.inr s)
  | _ => none
def tOfs : List PyData → Option (List Key)
  | [] => some []
  | k :: ks => match kOf k, tOfs ks with
    | some a, some as => some (a :: as)
    | _, _ => none
def tOf : PyData → Option (List Key)
  | .tuple ks => tOfs ks
  | _ => none
mutual
inductive Rp (Z : Zs) (F : Hp) : V → PyData → Prop
  | non : Rp Z F .non .none
  | bl (b : Bool) : Rp Z F (.bl b) (.bool b)
  | int (i : Int) : Rp Z F (.int i) (.int i)
  | str (x : Str) : Rp Z F (.str x) (.str x)
  | lst {a : Addr} {xs : List V} {ds : List PyData} : F a = some (.lst xs) → RpA Z F xs ds → Rp Z F (.ref a) (.list ds)
  | tup {a : Addr} {xs : List V} {ds : List PyData} : F a = some (.tup xs) → RpA Z F xs ds → Rp Z F (.ref a) (.tuple ds)
  | dK {a : Addr} {hk : List (Key × V)} {kvs : List (PyData × PyData)} : F a = some (.dK hk) → RpK Z F hk kvs → Rp Z F (.ref a) (.dict kvs)
  | dT {a : Addr} {ht : List (List Key × V)} {kvs : List (PyData × PyData)} : F a = some (.dT ht) → RpT Z F ht kvs → Rp Z F (.ref a) (.dict ((.none, .bool false) :: kvs))
  | st {a : Addr} : Z.root = some a → Rp Z F (.ref a) stD
  | sc {a : Addr} : Z.scr = some a → Rp Z F (.ref a) scD
inductive RpA (Z : Zs) (F : Hp) : List V → List PyData → Prop
  | nil : RpA Z F [] []
  | cons {v : V} {vs : List V} {d : PyData} {ds : List PyData} : Rp Z F v d → RpA Z F vs ds → RpA Z F (v :: vs) (d :: ds)
inductive RpK (Z : Zs) (F : Hp) : List (Key × V) → List (PyData × PyData) → Prop
  | nil : RpK Z F [] []
  | cons {k : Key} {v : V} {r : List (Key × V)} {c d : PyData} {s : List (PyData × PyData)} : kOf c = some k → Rp Z F v d → RpK Z F r s → RpK Z F ((k, v) :: r) ((c, d) :: s)
inductive RpT (Z : Zs) (F : Hp) : List (List Key × V) → List (PyData × PyData) → Prop
  | nil : RpT Z F [] []
  | cons {k : List Key} {v : V} {r : List (List Key × V)} {c d : PyData} {s : List (PyData × PyData)} : tOf c = some k → Rp Z F v d → RpT Z F r s → RpT Z F ((k, v) :: r) ((c, d) :: s)
end
section
variable {Z : Zs} {F F' H H' : Hp} {v : V} {d : PyData}
mutual
theorem Rp.mono (hF : ∀ a o, F a = some o → F' a = some o) : ∀ {v : V} {d : PyData}, Rp Z F v d → Rp Z F' v d
  | _, _, .non => .non
  | _, _, .bl b => .bl b
  | _, _, .int i => .int i
  | _, _, .str x => .str x
  | _, _, .lst h r => .lst (hF _ _ h) (RpA.mono hF r)
  | _, _, .tup h r => .tup (hF _ _ h) (RpA.mono hF r)
  | _, _, .dK h r => .dK (hF _ _ h) (RpK.mono hF r)
  | _, _, .dT h r => .dT (hF _ _ h) (RpT.mono hF r)
  | _, _, .st h => .st h
  | _, _, .sc h => .sc h
theorem RpA.mono (hF : ∀ a o, F a = some o → F' a = some o) : ∀ {vs : List V} {ds : List PyData}, RpA Z F vs ds → RpA Z F' vs ds
  | _, _, .nil => .nil
  | _, _, .cons h r => .cons (Rp.mono hF h) (RpA.mono hF r)
theorem RpK.mono (hF : ∀ a o, F a = some o → F' a = some o) : ∀ {vs : List (Key × V)} {ds : List (PyData × PyData)}, RpK Z F vs ds → RpK Z F' vs ds
  | _, _, .nil => .nil
  | _, _, .cons e h r => .cons e (Rp.mono hF h) (RpK.mono hF r)
theorem RpT.mono (hF : ∀ a o, F a = some o → F' a = some o) : ∀ {vs : List (List Key × V)} {ds : List (PyData × PyData)}, RpT Z F vs ds → RpT Z F' vs ds
  | _, _, .nil => .nil
  | _, _, .cons e h r => .cons e (Rp.mono hF h) (RpT.mono hF r)
end
theorem RpA.length : ∀ {vs : List V} {ds : List PyData}, RpA Z F vs ds → vs.length = ds.length
  | _, _, .nil => rfl
  | _, _, .cons _ r => by simp [RpA.length r]
theorem RpA.get : ∀ {vs : List V} {ds : List PyData} {i : Nat} {d : PyData}, RpA Z F vs ds → ds[i]? = some d → ∃ v, vs[i]? = some v ∧ Rp Z F v d
  | _, _, _, _, .nil, e => by simp at e
  | _, _, 0, _, .cons h _, e => by simp at e; subst e; exact ⟨_, rfl, h⟩
  | _, _, i + 1, _, .cons _ r, e => by
    obtain ⟨v, e1, h⟩ := RpA.get (i := i) r (by simpa using e)
    exact ⟨v, by simpa using e1, h⟩
theorem RpA.get' : ∀ {vs : List V} {ds : List PyData} {i : Nat} {v : V}, RpA Z F vs ds → vs[i]? = some v → ∃ d, ds[i]? = some d ∧ Rp Z F v d
  | _, _, _, _, .nil, e => by simp at e
  | _, _, 0, _, .cons h _, e => by simp at e; subst e; exact ⟨_, rfl, h⟩
  | _, _, i + 1, _, .cons _ r, e => by
    obtain ⟨v, e1, h⟩ := RpA.get' (i := i) r (by simpa using e)
    exact ⟨v, by simpa using e1, h⟩
theorem RpA.append : ∀ {vs ws : List V} {ds es : List PyData}, RpA Z F vs ds → RpA Z F ws es → RpA Z F (vs ++ ws) (ds ++ es)
  | _, _, _, _, .nil, s => s
  | _, _, _, _, .cons h r, s => .cons h (RpA.append r s)
theorem RpA.take : ∀ {vs : List V} {ds : List PyData} (n : Nat), RpA Z F vs ds → RpA Z F (vs.take n) (ds.take n)
  | _, _, 0, _ => .nil
  | _, _, _ + 1, .nil => .nil
  | _, _, n + 1, .cons h r => .cons h (RpA.take n r)
theorem RpA.drop : ∀ {vs : List V} {ds : List PyData} (n : Nat), RpA Z F vs ds → RpA Z F (vs.drop n) (ds.drop n)
  | _, _, 0, r => r
  | _, _, _ + 1, .nil => .nil
  | _, _, n + 1, .cons _ r => RpA.drop n r
theorem RpA.reverse : ∀ {vs : List V} {ds : List PyData}, RpA Z F vs ds → RpA Z F vs.reverse ds.reverse
  | _, _, .nil => .nil
  | _, _, .cons h r => by simp only [List.reverse_cons]; exact (RpA.reverse r).append (.cons h .nil)
theorem RpA.set {w : V} {e : PyData} (q : Rp Z F w e) : ∀ {vs : List V} {ds : List PyData} (i : Nat), RpA Z F vs ds → RpA Z F (vs.set i w) (ds.set i e)
  | _, _, _, .nil => .nil
  | _, _, 0, .cons _ r => .cons q r
  | _, _, i + 1, .cons h r => .cons h (RpA.set q i r)
theorem RpA.rep : ∀ {vs : List V} {ds : List PyData} (n : Nat), RpA Z F vs ds → RpA Z F (List.replicate n vs).flatten (List.replicate n ds).flatten
  | _, _, 0, _ => .nil
  | _, _, n + 1, r => by simp only [List.replicate_succ, List.flatten_cons]; exact r.append (RpA.rep n r)
theorem RpA.ints : ∀ {vs : List V} {ns : List Int}, RpA Z F vs (ns.map .int) → vs = ns.map V.int
  | _, [], h => by cases h; rfl
  | _, n :: ns, h => by
    cases h with
    | cons h1 h2 => cases h1; simp [RpA.ints h2]
theorem RpA.bls : ∀ {vs : List V} {ns : List Bool}, RpA Z F vs (ns.map .bool) → vs = ns.map V.bl
  | _, [], h => by cases h; rfl
  | _, n :: ns, h => by
    cases h with
    | cons h1 h2 => cases h1; simp [RpA.bls h2]
theorem RpA.of_ints (Z : Zs) (F : Hp) : ∀ ns : List Int, RpA Z F (ns.map V.int) (ns.map .int)
  | [] => .nil
  | n :: ns => .cons (.int n) (RpA.of_ints Z F ns)
/-- a container's contents -/
def Shp (Z : Zs) (F : Hp) : HO → PyData → Prop
  | .lst xs, .list ds => RpA Z F xs ds
  | .dK hk, .dict kvs => RpK Z F hk kvs
  | .dT ht, .dict (p :: kvs) => p = (.none, .bool false) ∧ RpT Z F ht kvs
  | _, _ => False
theorem Shp.mono {o : HO} (hF : ∀ a o, F a = some o → F' a = some o) (h : Shp Z F o d) : Shp Z F' o d := by
  unfold Shp at h ⊢
  split at h
  · exact RpA.mono hF h
  · exact RpK.mono hF h
  · exact ⟨h.1, RpT.mono hF h.2⟩
  · exact h.elim
/-- a container that is not shared -/
def RdO (Z : Zs) (F H : Hp) (v : V) (d : PyData) : Prop := ∃ a o, v = .ref a ∧ F a = none ∧ a ∉ Z.dom ∧ H a = some o ∧ Shp Z F o d
/-- a set of addresses -/
abbrev Ms := Addr → Prop
/-- .. that is new over H0, in no slot (M) -/
def RdN (Z : Zs) (H0 : Hp) (M : Ms) (F H : Hp) (v : V) (d : PyData) : Prop := ∃ a o, v = .ref a ∧ H0 a = none ∧ ¬ M a ∧ F a = none ∧ a ∉ Z.dom ∧ H a = some o ∧ Shp Z F o d
theorem RdN.old {H0 : Hp} {M : Ms} (h : RdN Z H0 M F H v d) : RdO Z F H v d := let ⟨a, o, e, _, _, f, n, g, s⟩ := h; ⟨a, o, e, f, n, g, s⟩
def Rdd (Z : Zs) (F H : Hp) (v : V) (d : PyData) : Prop := Rp Z F v d ∨ RdO Z F H v d
structure HI (Z : Zs) (F H : Hp) : Prop where
  sub : ∀ a o, F a = some o → H a = some o
  zf : ∀ b, b ∈ Z.dom → F b = none
  zh : ∀ b, b ∈ Z.dom → ∃ o, H b = some o
  zok : Z.ok H
/-- from (M, F, H) to (M', F', H'): M the slots' own objects, F the shared ones -/
structure Gr (Z : Zs) (M : Ms) (F H : Hp) (M' : Ms) (F' H' : Hp) : Prop where
  keep : ∀ b o, b ∉ Z.dom → ¬ M b → H b = some o → H' b = some o
  there : ∀ b, H' b = none → H b = none
  fro : ∀ b o, F b = some o → F' b = some o
  new : ∀ b o, F' b = some o → F b = some o ∨ H b = none ∨ M b
  own : ∀ b, M' b → M b ∨ H b = none
  hi : HI Z F' H'
abbrev M0 : Ms := fun _ => False
section
variable {M M' M1 : Ms} {H0 : Hp}
theorem Gr.refl (h : HI Z F H) : Gr Z M F H M F H := ⟨fun _ _ _ _ h => h, fun _ h => h, fun _ _ h => h, fun _ _ h => .inl h, fun _ h => .inl h, h⟩
theorem Gr.trans {F1 H1 : Hp} (a : Gr Z M F H M1 F1 H1) (b : Gr Z M1 F1 H1 M' F' H') : Gr Z M F H M' F' H' where
  keep := fun c o n m e => b.keep c o n (fun z => (a.own c z).elim m (fun q => by rw [e] at q; cases q)) (a.keep c o n m e)
  there := fun c e => a.there c (b.there c e)
  fro := fun c o e => b.fro c o (a.fro c o e)
  new := fun c o e => by
    rcases b.new c o e with h | h | h
    · exact a.new c o h
    · exact .inr (.inl (a.there c h))
    · rcases a.own c h with h | h
      · exact .inr (.inr h)
      · exact .inr (.inl h)
  own := fun c h => by
    rcases b.own c h with h | h
    · exact a.own c h
    · exact .inr (a.there c h)
  hi := b.hi
/-- the callee's way, seen by a caller -/
theorem Gr.lift (g : Gr Z M0 F H M0 F' H') : Gr Z M F H M F' H' :=
  ⟨fun b o n _ e => g.keep b o n (fun z => z) e, g.there, g.fro, fun b o e => (g.new b o e).elim .inl fun z => .inr (z.elim .inl False.elim), fun _ h => .inl h, g.hi⟩
theorem Gr.rp (g : Gr Z M F H M' F' H') (h : Rp Z F v d) : Rp Z F' v d := h.mono g.fro
theorem Gr.rpa {vs : List V} {ds : List PyData} (g : Gr Z M F H M' F' H') (h : RpA Z F vs ds) : RpA Z F' vs ds := h.mono g.fro
/-- an object that is neither shared nor a slot's stays so -/
theorem Gr.free (g : Gr Z M F H M' F' H') {a : Addr} {o : HO} (hF : F a = none) (hM : ¬ M a) (hH : H a = some o) : F' a = none := by
  cases q : F' a with
  | none => rfl
  | some u =>
    rcases g.new a u q with h | h | h
    · rw [hF] at h; cases h
    · rw [hH] at h; cases h
    · exact (hM h).elim
theorem Gr.noM (g : Gr Z M F H M' F' H') {a : Addr} {o : HO} (hM : ¬ M a) (hH : H a = some o) : ¬ M' a := fun z =>
  (g.own a z).elim hM (fun q => by rw [hH] at q; cases q)
theorem Gr.rdn (g : Gr Z M F H M' F' H') (h : RdN Z H0 M F H v d) : RdN Z H0 M' F' H' v d := by
  obtain ⟨a, o, e, i, m, f, n, k, s⟩ := h
  exact ⟨a, o, e, i, g.noM m k, g.free f m k, n, g.keep a o n m k, s.mono g.fro⟩
theorem RdN.base {H1 : Hp} (h : RdN Z H1 M F H v d) (k : ∀ b, H1 b = none → H0 b = none) : RdN Z H0 M F H v d := by
  obtain ⟨a, o, e, i, r⟩ := h
  exact ⟨a, o, e, k a i, r⟩
/-- a new container is shared from now on -/
theorem freeze1 {a : Addr} {o : HO} (hi : HI Z F H) (nd : a ∉ Z.dom) (ho : H a = some o) : HI Z (upd F a o) H ∧ ∀ b u, F b = some u → upd F a o b = some u := by
  have hF : ∀ b u, F b = some u → upd F a o b = some u := fun b u e => by
    by_cases hb : b = a
    · subst hb
      have := hi.sub b u e
      rw [ho] at this; cases this; exact upd_same
    · rw [upd_ne hb]; exact e
  refine ⟨⟨fun b u e => ?_, fun b hb => ?_, hi.zh, hi.zok⟩, hF⟩
  · by_cases hb : b = a
    · subst hb; rw [upd_same] at e; cases e; exact ho
    · rw [upd_ne hb] at e; exact hi.sub b u e
  · rw [upd_ne (fun (z : b = a) => nd (z ▸ hb))]; exact hi.zf b hb
theorem Shp.rp {a : Addr} {o : HO} (e : F a = some o) (s : Shp Z F o d) : Rp Z F (.ref a) d := by
  unfold Shp at s
  split at s
  · exact .lst e s
  · exact .dK e s
  · obtain ⟨rfl, s⟩ := s
    exact .dT e s
  · exact s.elim
theorem HI.fresh {p : Addr} (h : HI Z F H) (hp : H p = none) : F p = none := by
  cases q : F p with
  | none => rfl
  | some u => have := h.sub p u q; rw [hp] at this; cases this
theorem HI.nodom {p : Addr} (h : HI Z F H) (hp : H p = none) : p ∉ Z.dom := fun z => by obtain ⟨u, e⟩ := h.zh p z; rw [hp] at e; cases e
/-- a new object is laid, not shared -/
theorem HI.lay {p : Addr} {o : HO} (h : HI Z F H) (hp : H p = none) : Gr Z M0 F H M0 F (upd H p o) := by
  have nd := h.nodom hp
  have k : ∀ b u, H b = some u → upd H p o b = some u := fun b u e => by rw [upd_ne (ne_of_none e hp)]; exact e
  refine ⟨fun b u _ _ e => k b u e, fun b e => ?_, fun _ _ e => e, fun _ _ e => .inl e, fun _ z => z.elim, ⟨fun b u e => k b u (h.sub b u e), h.zf, fun b hb => ?_, ?_⟩⟩
  · cases q : H b with
    | none => rfl
    | some u => rw [k b u q] at e; cases e
  · obtain ⟨u, e⟩ := h.zh b hb; exact ⟨u, k b u e⟩
  · exact Z.loc H _ (fun b hb => (upd_ne (fun (z : b = p) => nd (z ▸ hb))).symm) h.zok
/-- a new shared object -/
theorem HI.layS {p : Addr} {o : HO} (h : HI Z F H) (hp : H p = none) : Gr Z M0 F H M0 (upd F p o) (upd H p o) := by
  have g := h.lay (o := o) hp
  obtain ⟨hi, hF⟩ := freeze1 (a := p) (o := o) g.hi (h.nodom hp) upd_same
  refine ⟨g.keep, g.there, hF, fun b u e => ?_, g.own, hi⟩
  by_cases hb : b = p
  · subst hb; exact .inr (.inl hp)
  · rw [upd_ne hb] at e; exact .inl e
end
/-! ### == of data -/
mutual
theorem Rp.dp {K : PySem.W.Frag} (hi : ∀ a o, F a = some o → H a = some o) : ∀ {v : V} {d : PyData}, Rp Z F v d → d.canLay0 = true → Dp K H v d
  | _, _, .non, _ => .non
  | _, _, .bl b, _ => .bl b
  | _, _, .int i, _ => .int i
  | _, _, .str x, _ => .str x
  | _, _, .lst h r, c => .lst (.inl (.inl (hi _ _ h))) (RpA.dp hi r (by simpa only [PyData.canLay0] using c))
  | _, _, .tup h r, c => .tup (.inl (.inl (hi _ _ h))) (RpA.dp hi r (by simpa only [PyData.canLay0] using c))
  | _, _, .dK h r, c => by simp [PyData.canLay0] at c
  | _, _, .dT h r, c => by simp [PyData.canLay0] at c
  | _, _, .st h, c => by simp [PyData.canLay0] at c
  | _, _, .sc h, c => by simp [PyData.canLay0] at c
theorem RpA.dp {K : PySem.W.Frag} (hi : ∀ a o, F a = some o → H a = some o) : ∀ {v : List V} {d : List PyData}, RpA Z F v d → PyData.canLayAll0 d = true → DpAll K H v d
  | _, _, .nil, _ => .nil
  | _, _, .cons h r, c => by
    have c' := c
    simp only [PyData.canLayAll0, Bool.and_eq_true] at c'
    exact .cons (Rp.dp hi h c'.1) (RpA.dp hi r c'.2)
end
theorem Rdd.dp {K : PySem.W.Frag} (hi : ∀ a o, F a = some o → H a = some o) (h : Rdd Z F H v d) (c : d.canLay0 = true) : Dp K H v d := by
  rcases h with h | ⟨a, o, rfl, _, _, e, s⟩
  · exact h.dp hi c
  · unfold Shp at s
    split at s
    · exact .lst (.inl (.inl e)) (RpA.dp hi s (by simpa only [PyData.canLay0] using c))
    · simp [PyData.canLay0] at c
    · simp [PyData.canLay0] at c
    · exact s.elim
/-- what stands behind a list, a tuple -/
theorem Rdd.list {ds : List PyData} (hi : ∀ a o, F a = some o → H a = some o) (h : Rdd Z F H v (.list ds)) : ∃ a vs, v = .ref a ∧ H a = some (.lst vs) ∧ RpA Z F vs ds := by
  rcases h with h | ⟨a, o, rfl, _, _, e, s⟩
  · cases h with
    | lst e r => exact ⟨_, _, rfl, hi _ _ e, r⟩
  · cases o <;> first | exact ⟨a, _, rfl, e, s⟩ | exact s.elim
theorem Rdd.tuple {ds : List PyData} (h : Rdd Z F H v (.tuple ds)) : ∃ a vs, v = .ref a ∧ F a = some (.tup vs) ∧ RpA Z F vs ds := by
  rcases h with h | ⟨a, o, rfl, _, _, e, s⟩
  · cases h with
    | tup e r => exact ⟨_, _, rfl, e, r⟩
  · cases o <;> exact s.elim
/-- dicts by data: keys that are ints and texts; keys that are tuples of them (marked) -/
def okK (kvs : List (PyData × PyData)) : Bool := kvs.all fun kv => (kOf kv.1).isSome
def lookK (kvs : List (PyData × PyData)) (k : Key) : Option PyData := (kvs.find? fun kv => decide (kOf kv.1 = some k)).map (·.2)
def lookT (kvs : List (PyData × PyData)) (k : List Key) : Option PyData := (kvs.find? fun kv => decide (tOf kv.1 = some k)).map (·.2)
def putKd (kvs : List (PyData × PyData)) (c : PyData) (k : Key) (d : PyData) : List (PyData × PyData) :=
  if kvs.any (fun kv => decide (kOf kv.1 = some k)) then kvs.map fun kv => if kOf kv.1 = some k then (kv.1, d) else kv else kvs ++ [(c, d)]
def putTd (kvs : List (PyData × PyData)) (c : PyData) (k : List Key) (d : PyData) : List (PyData × PyData) :=
  if kvs.any (fun kv => decide (tOf kv.1 = some k)) then kvs.map fun kv => if tOf kv.1 = some k then (kv.1, d) else kv else kvs ++ [(c, d)]
theorem Rdd.dictK {kvs : List (PyData × PyData)} (hi : ∀ a o, F a = some o → H a = some o) (h : Rdd Z F H v (.dict kvs)) (ok : okK kvs = true) : ∃ a hk, v = .ref a ∧ H a = some (.dK hk) ∧ RpK Z F hk kvs := by
  rcases h with h | ⟨a, o, rfl, _, _, e, s⟩
  · cases h with
    | dK e r => exact ⟨_, _, rfl, hi _ _ e, r⟩
    | dT e r => simp [okK, kOf] at ok
    | st _ => simp [okK, kOf] at ok
    | sc _ => simp [okK, kOf] at ok
  · cases o <;> try exact s.elim
    · exact ⟨a, _, rfl, e, s⟩
    · cases kvs with
      | nil => exact s.elim
      | cons p kvs =>
        obtain ⟨rfl, _⟩ := s
        simp [okK, kOf] at ok
theorem Rdd.dictT {kvs : List (PyData × PyData)} (hi : ∀ a o, F a = some o → H a = some o) (h : Rdd Z F H v (.dict ((.none, .bool false) :: kvs))) : ∃ a ht, v = .ref a ∧ H a = some (.dT ht) ∧ RpT Z F ht kvs := by
  rcases h with h | ⟨a, o, rfl, _, _, e, s⟩
  · cases h with
    | dK e r =>
      cases r with
      | cons c _ _ => cases c
    | dT e r => exact ⟨_, _, rfl, hi _ _ e, r⟩
  · cases o <;> try exact s.elim
    · cases s with
      | cons c _ _ => cases c
    · obtain ⟨_, s⟩ := s
      exact ⟨a, _, rfl, e, s⟩
theorem RpK.length : ∀ {hk : List (Key × V)} {kvs : List (PyData × PyData)}, RpK Z F hk kvs → hk.length = kvs.length
  | _, _, .nil => rfl
  | _, _, .cons _ _ r => by simp [RpK.length r]
theorem RpT.length : ∀ {hk : List (List Key × V)} {kvs : List (PyData × PyData)}, RpT Z F hk kvs → hk.length = kvs.length
  | _, _, .nil => rfl
  | _, _, .cons _ _ r => by simp [RpT.length r]
theorem RpK.look (k : Key) : ∀ {hk : List (Key × V)} {kvs : List (PyData × PyData)}, RpK Z F hk kvs → (∃ w d, valV hk k = some w ∧ lookK kvs k = some d ∧ Rp Z F w d) ∨ (valV hk k = none ∧ lookK kvs k = none)
  | _, _, .nil => .inr ⟨rfl, rfl⟩
  | _, _, .cons (k := j) (v := w) (c := c) (d := d) e h r => by
    by_cases x : j = k
    · subst x
      exact .inl ⟨w, d, valV_pos rfl, by simp [lookK, List.find?_cons, e], h⟩
    · have e1 : ¬ kOf c = some k := fun z => x (by rw [e] at z; exact Option.some.inj z)
      rw [valV_neg (p := (j, w)) x]
      have e2 : ∀ s, lookK ((c, d) :: s) k = lookK s k := fun s => by simp [lookK, List.find?_cons, e1]
      rw [e2]
      exact RpK.look k r
theorem RpT.look (k : List Key) : ∀ {hk : List (List Key × V)} {kvs : List (PyData × PyData)}, RpT Z F hk kvs → (∃ w d, valV hk k = some w ∧ lookT kvs k = some d ∧ Rp Z F w d) ∨ (valV hk k = none ∧ lookT kvs k = none)
  | _, _, .nil => .inr ⟨rfl, rfl⟩
  | _, _, .cons (k := j) (v := w) (c := c) (d := d) e h r => by
    by_cases x : j = k
    · subst x
      exact .inl ⟨w, d, valV_pos rfl, by simp [lookT, List.find?_cons, e], h⟩
    · have e1 : ¬ tOf c = some k := fun z => x (by rw [e] at z; exact Option.some.inj z)
      rw [valV_neg (p := (j, w)) x]
      have e2 : ∀ s, lookT ((c, d) :: s) k = lookT s k := fun s => by simp [lookT, List.find?_cons, e1]
      rw [e2]
      exact RpT.look k r
theorem RpK.any (k : Key) : ∀ {hk : List (Key × V)} {kvs : List (PyData × PyData)}, RpK Z F hk kvs → (hk.any fun kv => decide (kv.1 = k)) = kvs.any fun kv => decide (kOf kv.1 = some k)
  | _, _, .nil => rfl
  | _, _, .cons e h r => by
    rw [List.any_cons, List.any_cons, RpK.any k r, e]
    congr 1
    simp
theorem RpT.any (k : List Key) : ∀ {hk : List (List Key × V)} {kvs : List (PyData × PyData)}, RpT Z F hk kvs → (hk.any fun kv => decide (kv.1 = k)) = kvs.any fun kv => decide (tOf kv.1 = some k)
  | _, _, .nil => rfl
  | _, _, .cons e h r => by
    rw [List.any_cons, List.any_cons, RpT.any k r, e]
    congr 1
    simp
theorem RpK.repl (k : Key) {w : V} {d : PyData} (q : Rp Z F w d) : ∀ {hk : List (Key × V)} {kvs : List (PyData × PyData)}, RpK Z F hk kvs → RpK Z F (hk.map fun kv => if kv.1 = k then (kv.1, w) else kv) (kvs.map fun kv => if kOf kv.1 = some k then (kv.1, d) else kv)
  | _, _, .nil => .nil
  | _, _, .cons (k := j) (c := c) e h r => by
    rw [List.map_cons, List.map_cons]
    by_cases x : j = k
    · subst x
      rw [if_pos rfl, if_pos e]
      exact .cons e q (RpK.repl _ q r)
    · rw [if_neg x, if_neg (fun z => x (by rw [e] at z; exact Option.some.inj z))]
      exact .cons e h (RpK.repl _ q r)
theorem RpT.repl (k : List Key) {w : V} {d : PyData} (q : Rp Z F w d) : ∀ {hk : List (List Key × V)} {kvs : List (PyData × PyData)}, RpT Z F hk kvs → RpT Z F (hk.map fun kv => if kv.1 = k then (kv.1, w) else kv) (kvs.map fun kv => if tOf kv.1 = some k then (kv.1, d) else kv)
  | _, _, .nil => .nil
  | _, _, .cons (k := j) (c := c) e h r => by
    rw [List.map_cons, List.map_cons]
    by_cases x : j = k
    · subst x
      rw [if_pos rfl, if_pos e]
      exact .cons e q (RpT.repl _ q r)
    · rw [if_neg x, if_neg (fun z => x (by rw [e] at z; exact Option.some.inj z))]
      exact .cons e h (RpT.repl _ q r)
theorem RpK.snoc {k : Key} {c : PyData} (e : kOf c = some k) {w : V} {d : PyData} (q : Rp Z F w d) : ∀ {hk : List (Key × V)} {kvs : List (PyData × PyData)}, RpK Z F hk kvs → RpK Z F (hk ++ [(k, w)]) (kvs ++ [(c, d)])
  | _, _, .nil => .cons e q .nil
  | _, _, .cons e1 h r => .cons e1 h (RpK.snoc e q r)
theorem RpT.snoc {k : List Key} {c : PyData} (e : tOf c = some k) {w : V} {d : PyData} (q : Rp Z F w d) : ∀ {hk : List (List Key × V)} {kvs : List (PyData × PyData)}, RpT Z F hk kvs → RpT Z F (hk ++ [(k, w)]) (kvs ++ [(c, d)])
  | _, _, .nil => .cons e q .nil
  | _, _, .cons e1 h r => .cons e1 h (RpT.snoc e q r)
theorem RpK.put {k : Key} {c : PyData} (e : kOf c = some k) {w : V} {d : PyData} (q : Rp Z F w d) {hk : List (Key × V)} {kvs : List (PyData × PyData)} (r : RpK Z F hk kvs) : RpK Z F (putK hk k w) (putKd kvs c k d) := by
  unfold putK putKd
  rw [r.any k]
  split
  · exact r.repl k q
  · exact r.snoc e q
theorem RpT.put {k : List Key} {c : PyData} (e : tOf c = some k) {w : V} {d : PyData} (q : Rp Z F w d) {hk : List (List Key × V)} {kvs : List (PyData × PyData)} (r : RpT Z F hk kvs) : RpT Z F (putK hk k w) (putTd kvs c k d) := by
  unfold putK putTd
  rw [r.any k]
  split
  · exact r.repl k q
  · exact r.snoc e q
theorem Rp.keyv {c : PyData} {k : Key} (h : Rp Z F v c) (e : kOf c = some k) : v = kV k := by
  cases h <;> simp only [kOf] at e <;> cases e <;> rfl
theorem RpA.keys : ∀ {vs : List V} {ds : List PyData} {ks : List Key}, RpA Z F vs ds → tOfs ds = some ks → vs = ks.map kV
  | _, _, _, .nil, e => by cases e; rfl
  | _, _, _, .cons (d := d) (ds := ds) h r, e => by
    simp only [tOfs] at e
    cases e1 : kOf d with
    | none => rw [e1] at e; cases e
    | some a =>
      cases e2 : tOfs ds with
      | none => rw [e1, e2] at e; cases e
      | some as =>
        rw [e1, e2] at e
        cases e
        rw [h.keyv e1, RpA.keys r e2]; rfl
theorem Rdd.keyv {c : PyData} {k : Key} (h : Rdd Z F H v c) (e : kOf c = some k) : v = kV k := by
  rcases h with h | ⟨a, o, rfl, _, _, e', s⟩
  · exact h.keyv e
  · cases c <;> simp only [kOf] at e <;> try (cases e; done)
    all_goals cases o <;> exact s.elim
theorem Rdd.keyt {c : PyData} {k : List Key} (h : Rdd Z F H v c) (e : tOf c = some k) : ∃ b, v = .ref b ∧ F b = some (.tup (k.map kV)) := by
  cases c <;> simp only [tOf] at e <;> try (cases e; done)
  obtain ⟨b, vs, rfl, hb, r⟩ := h.tuple
  obtain rfl := r.keys e
  exact ⟨b, rfl, hb⟩
/-- what a dict holds at a key -/
def dGet : PyData → PyData → Option (Option PyData)
  | .dict ((.none, .bool false) :: kvs), c => (tOf c).map (lookT kvs)
  | .dict kvs, c => if okK kvs = true then (kOf c).map (lookK kvs) else none
  | _, _ => none
theorem dget_of {w : V} {d c : PyData} {o : Option PyData} (hi : ∀ a o, F a = some o → H a = some o) (h : Rdd Z F H v d) (hc : Rdd Z F H w c) (e : dGet d c = some o) : ∃ a o', v = .ref a ∧ DGet H a w o' ∧ ((∃ u x, o' = some u ∧ o = some x ∧ Rp Z F u x) ∨ o' = none ∧ o = none) := by
  unfold dGet at e
  split at e
  · rename_i kvs
    cases e1 : tOf c with
    | none => rw [e1] at e; cases e
    | some k =>
      rw [e1] at e
      cases e
      obtain ⟨a, ht, rfl, ha, r⟩ := h.dictT hi
      obtain ⟨b, rfl, hb⟩ := hc.keyt e1
      refine ⟨a, valV ht k, rfl, .t ha (hi _ _ hb), ?_⟩
      rcases r.look k with ⟨u, x, e2, e3, q⟩ | ⟨e2, e3⟩
      · exact .inl ⟨u, x, e2, e3, q⟩
      · exact .inr ⟨e2, e3⟩
  · rename_i kvs _
    split at e
    · rename_i ok
      cases e1 : kOf c with
      | none => rw [e1] at e; cases e
      | some k =>
        rw [e1] at e
        cases e
        obtain ⟨a, hk, rfl, ha, r⟩ := h.dictK hi ok
        obtain rfl := hc.keyv e1
        refine ⟨a, valV hk k, rfl, .k ha, ?_⟩
        rcases r.look k with ⟨u, x, e2, e3, q⟩ | ⟨e2, e3⟩
        · exact .inl ⟨u, x, e2, e3, q⟩
        · exact .inr ⟨e2, e3⟩
    · cases e
  · cases e
theorem Rdd.intv {i : Int} (h : Rdd Z F H v (.int i)) : v = .int i := by
  rcases h with h | ⟨a, o, rfl, _, _, e, s⟩
  · cases h; rfl
  · cases o <;> exact s.elim
theorem Rdd.blv {i : Bool} (h : Rdd Z F H v (.bool i)) : v = .bl i := by
  rcases h with h | ⟨a, o, rfl, _, _, e, s⟩
  · cases h; rfl
  · cases o <;> exact s.elim
theorem Rp.blv {i : Bool} (h : Rp Z F v (.bool i)) : v = .bl i := by cases h; rfl
theorem Rp.intv {i : Int} (h : Rp Z F v (.int i)) : v = .int i := by cases h; rfl
theorem Rdd.strv {i : Str} (h : Rdd Z F H v (.str i)) : v = .str i := by
  rcases h with h | ⟨a, o, rfl, _, _, e, s⟩
  · cases h; rfl
  · cases o <;> exact s.elim
theorem Rdd.nonv (h : Rdd Z F H v .none) : v = .non := by
  rcases h with h | ⟨a, o, rfl, _, _, e, s⟩
  · cases h; rfl
  · cases o <;> exact s.elim
theorem Rdd.ne_non (h : Rdd Z F H v d) : (v = .non) ↔ d = .none := by
  rcases h with h | ⟨a, o, rfl, _, _, e, s⟩
  · cases h <;> simp
  · cases d <;> simp
    cases o <;> exact s.elim
end
end Ev
/-! Ev2: the code language and what it means over data -/
namespace Ev
open PySem PySem.Spec PyProof.Rows L2
/-- the largest length -/
abbrev LIM : Nat := 16777216
inductive Op2 | add | sub | mul | fdiv | mod | eq | ne | lt | le | gt | ge | isin | notin
  deriving DecidableEq
inductive Op1 | neg | isN | notN | nt
  deriving DecidableEq
/-- built-in functions -/
inductive Fn | len | tuple | list | sum | max | min | all | any | abs | int | sorted | sortset | lenset | listrng | tuprng
  deriving DecidableEq
/-- methods that change nothing -/
inductive Mt | index | count | get
  deriving DecidableEq
/-- methods that change their object -/
inductive Mu | append | extend
  deriving DecidableEq
/-- what is walked -/
inductive Ik | seq | rng | enum | zip | rst
  deriving DecidableEq
mutual
inductive Tg | nm (i : Nat) | tp (ts : Tgs)
inductive Tgs | nil | cons (t : Tg) (r : Tgs)
end
inductive Pl | sl (i : Nat) | fl (i : Nat) (f : Str)
  deriving DecidableEq
mutual
inductive C
  | rd (p : Pl) | own (p : Pl)
  | int (n : Int) | bl (b : Bool) | non | str (s : Str)
  | tup (es : Cs) | lst (es : Cs) | dnew (t : Bool)
  | op (o : Op2) (a b : C) | un (o : Op1) (a : C) | chain (o p : Op2) (a b c : C)
  | nd (a b : C) | or (a b : C) | ite (t : T) (a b : C)
  | idx (a i : C) | slc (a : C) (lo hi : O) | rev (a : C)
  | cl (f : Nat) (es : Cs)
  | bi (f : Fn) (es : Cs)
  | mt (m : Mt) (a : C) (es : Cs)
  | comp (vs : List Nat) (t : Tg) (k : Ik) (its : Cs) (cond : T) (elt : C)
inductive Cs | nil | cons (c : C) (r : Cs)
inductive T | v (c : C) | nd (a b : T) | or (a b : T) | nt (a : T) | yes
inductive O | no | so (c : C)
end
inductive S
  | skip | seq (a b : S)
  | asg (i : Nat) (e : C) | asgO (i : Nat) (e : C) | asgT (t : Tg) (e : C) | par (is : List Nat) (es : Cs)
  | seti (p : Pl) (ix e : C) | mut (p : Pl) (m : Mu) (e : C)
  | ifs (t : T) (a b : S) | fr (t : Tg) (k : Ik) (its : Cs) (b : S) | whl (t : T) (b : S)
  | ret (e : C) | retN | brk | cnt | pas | nev | frz (p : Pl) | exp (e : C)
/-! ### what stands in a slot -/
inductive Fl | sh (d : PyData) | ow (d : PyData)
inductive Sl | un | sh (d : PyData) | ow (d : PyData) | ob (c : Nat) (fs : List (Str × Fl))
abbrev Env := List Sl
def Fl.sl : Fl → Sl
  | .sh d => .sh d
  | .ow d => .ow d
def putFl (f : Str) (x : Fl) : List (Str × Fl) → List (Str × Fl)
  | [] => [(f, x)]
  | (g, y) :: r => if g = f then (g, x) :: r else (g, y) :: putFl f x r
def Pl.get (p : Pl) (ε : Env) : Option Fl := match p with
  | .sl i => match ε[i]? with
    | some (.sh d) => some (.sh d)
    | some (.ow d) => some (.ow d)
    | _ => none
  | .fl i f => match ε[i]? with
    | some (.ob _ fs) => fs.lookup f
    | _ => none
def Pl.put (p : Pl) (x : Fl) (ε : Env) : Env := match p with
  | .sl i => ε.set i x.sl
  | .fl i f => match ε[i]? with
    | some (.ob c fs) => ε.set i (.ob c (putFl f x fs))
    | _ => ε
def Pl.ix : Pl → Nat
  | .sl i => i
  | .fl i _ => i
/-! ### operations on data -/
def shaped2 (a b : PyData) : Bool := SeqAt.shaped a && SeqAt.shaped b
def intsOf : List PyData → Option (List Int)
  | [] => some []
  | .int i :: r => (intsOf r).map (i :: ·)
  | _ :: _ => none
def blsOf : List PyData → Option (List Bool)
  | [] => some []
  | .bool i :: r => (blsOf r).map (i :: ·)
  | _ :: _ => none
def flatD : PyData → Bool
  | .none => true
  | .bool _ => true
  | .int _ => true
  | .str _ => true
  | _ => false
def mulOk (i j : Int) : Prop := (-18446744073709551616 < i ∧ i < 18446744073709551616) ∨ (-18446744073709551616 < j ∧ j < 18446744073709551616)
def repOk (l : Nat) (k : Int) : Prop := -9223372036854775808 ≤ k ∧ k < 9223372036854775808 ∧ l * k.toNat ≤ LIM
def divOk (b : Int) : Prop := 0 < b ∧ b < 1073741824
def rngOk (n : Int) : Prop := -4611686018427387904 ≤ n ∧ n < 4611686018427387904
def lrOk (n : Int) : Prop := 0 ≤ n ∧ n ≤ 16777216
noncomputable section
instance {i j : Int} : Decidable (mulOk i j) := Classical.propDecidable _
instance {l : Nat} {k : Int} : Decidable (repOk l k) := Classical.propDecidable _
instance {b : Int} : Decidable (divOk b) := Classical.propDecidable _
instance {n : Int} : Decidable (rngOk n) := Classical.propDecidable _
instance {n : Int} : Decidable (lrOk n) := Classical.propDecidable _
def op2 : Op2 → PyData → PyData → Option PyData
  | .add, .int a, .int b => some (.int (a + b))
  | .add, .list a, .list b => if a.length + b.length ≤ LIM then some (.list (a ++ b)) else none
  | .add, .tuple a, .tuple b => if a.length + b.length ≤ LIM then some (.tuple (a ++ b)) else none
  | .sub, .int a, .int b => some (.int (a - b))
  | .mul, .int a, .int b => if mulOk a b then some (.int (a * b)) else none
  | .mul, .list a, .int k => if repOk a.length k then some (.list (List.replicate k.toNat a).flatten) else none
  | .fdiv, .int a, .int b => if divOk b then some (.int (a / b)) else none
  | .mod, .int a, .int b => if 0 < b then some (.int (a % b)) else none
  | .eq, a, b => if shaped2 a b = true then some (.bool (PyData.eqv a b)) else none
  | .ne, a, b => if shaped2 a b = true then some (.bool (!PyData.eqv a b)) else none
  | .lt, .int a, .int b => some (.bool (decide (a < b)))
  | .lt, .tuple a, .tuple b => match intsOf a, intsOf b with
    | some xs, some ys => some (.bool (HT.lexLt xs ys))
    | _, _ => none
  | .le, .int a, .int b => some (.bool (decide (a ≤ b)))
  | .gt, .int a, .int b => some (.bool (decide (b < a)))
  | .ge, .int a, .int b => some (.bool (decide (b ≤ a)))
  | .isin, a, .list ds => if shaped2 a (.list ds) = true then some (.bool (ds.any fun z => PyData.eqv z a)) else none
  | .notin, a, .list ds => if shaped2 a (.list ds) = true then some (.bool (!ds.any fun z => PyData.eqv z a)) else none
  | .isin, a, .tuple ds => if flatD a && ds.all flatD then some (.bool (ds.any fun z => PyData.eqv z a)) else none
  | .notin, a, .tuple ds => if flatD a && ds.all flatD then some (.bool (!ds.any fun z => PyData.eqv z a)) else none
  | .isin, a, .dict kvs => (dGet (.dict kvs) a).map fun o => .bool o.isSome
  | .notin, a, .dict kvs => (dGet (.dict kvs) a).map fun o => .bool (!o.isSome)
  | _, _, _ => none
def isNoneD : PyData → Bool
  | .none => true
  | _ => false
def op1 : Op1 → PyData → Option PyData
  | .neg, .int a => some (.int (-a))
  | .isN, d => some (.bool (isNoneD d))
  | .notN, d => some (.bool (!isNoneD d))
  | .nt, .bool b => some (.bool (!b))
  | _, _ => none
def ixS : PyData → PyData → Option PyData
  | .list ds, .int i => atI ds i
  | .tuple ds, .int i => atI ds i
  | .dict kvs, c => match dGet (.dict kvs) c with
    | some (some d) => some d
    | _ => none
  | _, _ => none
def cutD (ds : List PyData) (lo hi : Option Int) : List PyData := (ds.drop (HT.sIx ds.length 0 lo)).take (HT.sIx ds.length ds.length hi - HT.sIx ds.length 0 lo)
def slS : PyData → Option Int → Option Int → Option PyData
  | .list ds, lo, hi => some (.list (cutD ds lo hi))
  | _, _, _ => none
def truthD : PyData → Option Bool
  | .bool b => some b
  | .list ds => some (!ds.isEmpty)
  | .int i => some (i != 0)
  | .none => some false
  | _ => none
def maxL : Int → List Int → Int
  | m, [] => m
  | m, x :: r => maxL (if x > m then x else m) r
def minL : Int → List Int → Int
  | m, [] => m
  | m, x :: r => minL (if x < m then x else m) r
/-- an insertion into an ascending list without a second one -/
def insI (x : Int) : List Int → List Int
  | [] => [x]
  | y :: r => if x < y then x :: y :: r else if x = y then y :: r else y :: insI x r
/-- the ascending list of the members -/
def sortU (ns : List Int) : List Int := ns.foldr insI []
def fnS : Fn → List PyData → Option PyData
  | .len, [.list ds] => some (.int ds.length)
  | .len, [.tuple ds] => some (.int ds.length)
  | .len, [.dict ((.none, .bool false) :: kvs)] => some (.int kvs.length)
  | .len, [.dict kvs] => if okK kvs = true then some (.int kvs.length) else none
  | .tuple, [.list ds] => some (.tuple ds)
  | .tuple, [.tuple ds] => some (.tuple ds)
  | .list, [.list ds] => some (.list ds)
  | .list, [.tuple ds] => some (.list ds)
  | .sum, [.list ds] => (intsOf ds).map fun ns => .int ns.sum
  | .max, [.list ds] => match intsOf ds with
    | some (n :: ns) => some (.int (maxL n ns))
    | _ => none
  | .max, [.int i, .int j] => some (.int (if j > i then j else i))
  | .min, [.list ds] => match intsOf ds with
    | some (n :: ns) => some (.int (minL n ns))
    | _ => none
  | .min, [.int i, .int j] => some (.int (if j < i then j else i))
  | .all, [.list ds] => (blsOf ds).map fun ns => .bool (ns.all id)
  | .any, [.list ds] => (blsOf ds).map fun ns => .bool (ns.any id)
  | .abs, [.int i] => some (.int (if i < 0 then -i else i))
  | .int, [.int i] => some (.int i)
  | .int, [.bool b] => some (.int (if b then 1 else 0))
  | .sortset, [.list ds] => match intsOf ds with
    | some ns => if ns.length < 64 then some (.list ((sortU ns).map .int)) else none
    | _ => none
  | .listrng, [.int n] => if lrOk n then some (.list ((List.range n.toNat).map fun (i : Nat) => .int i)) else none
  | .tuprng, [.int n] => if lrOk n then some (.tuple ((List.range n.toNat).map fun (i : Nat) => .int i)) else none
  | _, _ => none
/-- a dict of the program -/
def dOk : PyData → Bool
  | .dict ((.none, .bool false) :: _) => true
  | .dict kvs => okK kvs
  | _ => false
def mtS : Mt → PyData → List PyData → Option PyData
  | .index, .list ds, [d] => if SeqAt.shaped (.list ds) && SeqAt.shaped d then (ds.findIdx? fun z => PyData.eqv z d).map fun j => .int j else none
  | .get, d, [c] => (dGet d c).map fun o => o.getD .none
  | .get, d, [c, x] => (dGet d c).map fun o => o.getD x
  | _, _, _ => none
/-- the kind of the object that a method is of -/
def mtK : Mt → PyData → Bool
  | .index, .list _ => true
  | .count, .list _ => true
  | .get, d => dOk d
  | _, _ => false
def owB : Option Fl → Bool
  | some (.ow _) => true
  | _ => false
def muK : Mu → Option Fl → Bool
  | .append, some (.ow (.list _)) => true
  | .extend, some (.ow (.list _)) => true
  | _, _ => false
def muS : Mu → PyData → PyData → Option PyData
  | .append, .list ds, d => if ds.length < LIM then some (.list (ds ++ [d])) else none
  | .extend, .list ds, .list es => if ds.length + es.length ≤ LIM then some (.list (ds ++ es)) else none
  | _, _, _ => none
def dPut : PyData → PyData → PyData → Option PyData
  | .dict ((.none, .bool false) :: kvs), c, d => match tOf c with
    | some k => if kvs.length < LIM then some (.dict ((.none, .bool false) :: putTd kvs c k d)) else none
    | none => none
  | .dict kvs, c, d => if okK kvs = true ∧ kvs.length < LIM then (match kOf c with
    | some k => some (.dict (putKd kvs c k d))
    | none => none) else none
  | _, _, _ => none
theorem dPut_some {kvs : List (PyData × PyData)} {c d r : PyData} (h : dPut (.dict kvs) c d = some r) : (∃ kvs' ks, kvs = (.none, .bool false) :: kvs' ∧ tOf c = some ks ∧ kvs'.length < LIM ∧ r = .dict ((.none, .bool false) :: putTd kvs' c ks d)) ∨
    (okK kvs = true ∧ ∃ k, kOf c = some k ∧ kvs.length < LIM ∧ r = .dict (putKd kvs c k d)) := by
  unfold dPut at h
  split at h
  · rename_i e
    cases e
    split at h
    · rename_i e2
      split at h <;> cases h
      rename_i hl
      exact .inl ⟨_, _, rfl, e2, hl, rfl⟩
    · cases h
  · rename_i e
    cases e
    split at h
    · rename_i hl
      split at h <;> cases h
      rename_i e2
      exact .inr ⟨hl.1, _, e2, hl.2, rfl⟩
    · cases h
  · cases h
def setS : PyData → PyData → PyData → Option PyData
  | .list ds, .int k, d => match ixN ds.length k with
    | some j => some (.list (ds.set j d))
    | none => none
  | .dict kvs, c, d => dPut (.dict kvs) c d
  | _, _, _ => none
def rngD (lo hi : Int) : List PyData := (List.range (hi - lo).toNat).map fun (i : Nat) => .int (lo + i)
/-- range(a, b, c) -/
def stOk (a b c : Int) : Prop := RgC a b c (Builtin.Range.rangeSize a b c).toNat
instance {a b c : Int} : Decidable (stOk a b c) := Classical.propDecidable _
def stpD (a b c : Int) : List PyData := (List.range (Builtin.Range.rangeSize a b c).toNat).map fun (i : Nat) => .int (a + i * c)
def itS : Ik → List PyData → Option (List PyData)
  | .seq, [.list ds] => some ds
  | .seq, [.tuple ds] => some ds
  | .rng, [.int n] => if rngOk n then some ((List.range n.toNat).map fun (i : Nat) => .int i) else none
  | .rng, [.int a, .int b] => if rngOk a ∧ rngOk b then some (rngD a b) else none
  | .enum, [.list ds] => some (ds.zipIdx.map fun p => .tuple [.int p.2, p.1])
  | .zip, [.list a, .list b] => some (List.zipWith (fun x y => .tuple [x, y]) a b)
  | .zip, [.tuple a, .tuple b] => some (List.zipWith (fun x y => .tuple [x, y]) a b)
  | .rst, [.int a, .int b, .int c] => if stOk a b c then some (stpD a b c) else none
  | _, _ => none
/-! ### targets -/
mutual
def tgS : Tg → PyData → Env → Option Env
  | .nm i, d, ε => some (ε.set i (.sh d))
  | .tp ts, .tuple ds, ε => tgsS ts ds ε
  | .tp _, _, _ => none
def tgsS : Tgs → List PyData → Env → Option Env
  | .nil, [], ε => some ε
  | .cons t r, d :: ds, ε => match tgS t d ε with
    | some ε' => tgsS r ds ε'
    | none => none
  | _, _, _ => none
end
mutual
def Tg.slots : Tg → List Nat
  | .nm i => [i]
  | .tp ts => ts.slots
def Tgs.slots : Tgs → List Nat
  | .nil => []
  | .cons t r => t.slots ++ r.slots
end
def wipeE (ε : Env) : List Nat → Env
  | [] => ε
  | v :: vs => (wipeE ε vs).set v .un
/-- behind a block: its own names as they were ahead -/
def backE (ε ε' : Env) : List Nat → Env
  | [] => ε'
  | v :: vs => (backE ε ε' vs).set v (ε[v]?.getD .un)
def Cs.len : Cs → Nat
  | .nil => 0
  | .cons _ r => r.len + 1
/-! ### running -/
abbrev WD := (PyData → Env → Prop) → Prop
abbrev Tab := Nat → List PyData → (PyData → Prop) → Prop
def okO (c : C) (d : PyData) (ε : Env) : Prop := match c with
  | .own p => p.get ε = some (.ow d)
  | _ => True
def okOs : Cs → List PyData → Env → Prop
  | .cons c r, d :: ds, ε => okO c d ε ∧ okOs r ds ε
  | _, _, _ => True
def retD (r : Option PyData) (Q : PyData → Prop) : Prop := match r with
  | some d => Q d
  | none => False
def compL (f : PyData → Env → (Option PyData → Env → Prop) → Prop) : List PyData → List PyData → Env → (List PyData → Env → Prop) → Prop
  | [], acc, ε, Q => Q acc ε
  | d :: ds, acc, ε, Q => f d ε fun r ε' => match r with
    | some y => acc.length < LIM ∧ compL f ds (acc ++ [y]) ε' Q
    | none => compL f ds acc ε' Q
mutual
def ev (Φ : Tab) : C → Env → (PyData → Env → Prop) → Prop
  | .rd p, ε, Q => match p.get ε with
    | some (.sh d) => Q d ε
    | _ => False
  | .own p, ε, Q => match p.get ε with
    | some (.ow d) => Q d ε
    | _ => False
  | .int n, ε, Q => Q (.int n) ε
  | .bl b, ε, Q => Q (.bool b) ε
  | .non, ε, Q => Q .none ε
  | .str s, ε, Q => Q (.str s) ε
  | .tup es, ε, Q => evs Φ es ε fun ds ε' => Q (.tuple ds) ε'
  | .lst es, ε, Q => evs Φ es ε fun ds ε' => Q (.list ds) ε'
  | .dnew t, ε, Q => Q (.dict (if t = true then [(.none, .bool false)] else [])) ε
  | .op o a b, ε, Q => ev Φ a ε fun x ε1 => ev Φ b ε1 fun y ε2 => okO a x ε2 ∧ retD (op2 o x y) fun r => Q r ε2
  | .un o a, ε, Q => ev Φ a ε fun x ε1 => retD (op1 o x) fun r => Q r ε1
  | .chain o p a b c, ε, Q => ev Φ a ε fun x ε1 => ev Φ b ε1 fun y ε2 => okO a x ε2 ∧ (match op2 o x y with
    | some (.bool true) => ev Φ c ε2 fun z ε3 => okO b y ε3 ∧ retD (op2 p y z) fun r => Q r ε3
    | some (.bool false) => Q (.bool false) ε2
    | _ => False)
  | .nd a b, ε, Q => ev Φ a ε fun x ε1 => match x with
    | .bool true => ev Φ b ε1 Q
    | .bool false => Q (.bool false) ε1
    | _ => False
  | .or a b, ε, Q => ev Φ a ε fun x ε1 => match x with
    | .bool true => Q (.bool true) ε1
    | .bool false => ev Φ b ε1 Q
    | _ => False
  | .ite t a b, ε, Q => evT Φ t ε fun c ε1 => if c = true then ev Φ a ε1 Q else ev Φ b ε1 Q
  | .idx a i, ε, Q => ev Φ a ε fun x ε1 => ev Φ i ε1 fun y ε2 => okO a x ε2 ∧ retD (ixS x y) fun r => Q r ε2
  | .slc a lo hi, ε, Q => ev Φ a ε fun x ε1 => evO Φ lo ε1 fun l ε2 => evO Φ hi ε2 fun h ε3 => okO a x ε3 ∧ retD (slS x l h) fun r => Q r ε3
  | .rev a, ε, Q => ev Φ a ε fun x ε1 => match x with
    | .list ds => Q (.list ds.reverse) ε1
    | _ => False
  | .cl f es, ε, Q => evs Φ es ε fun ds ε' => Φ f ds fun d => Q d ε'
  | .bi f es, ε, Q => evs Φ es ε fun ds ε' => okOs es ds ε' ∧ retD (fnS f ds) fun r => Q r ε'
  | .mt m a es, ε, Q => ev Φ a ε fun x ε1 => mtK m x = true ∧ evs Φ es ε1 fun ds ε2 => okO a x ε2 ∧ okOs es ds ε2 ∧ retD (mtS m x ds) fun r => Q r ε2
  | .comp vs t k its cond elt, ε, Q => evs Φ its ε fun ds ε' => okOs its ds ε' ∧ (match itS k ds with
    | some xs => compL (fun d ε0 q => match tgS t d (wipeE ε0 vs) with
        | some ε1 => evT Φ cond ε1 fun b ε2 => if b = true then ev Φ elt ε2 fun y ε3 => q (some y) (backE ε0 ε3 vs) else q none (backE ε0 ε2 vs)
        | none => False) xs [] ε' fun ys ε'' => Q (.list ys) ε''
    | none => False)
def evs (Φ : Tab) : Cs → Env → (List PyData → Env → Prop) → Prop
  | .nil, ε, Q => Q [] ε
  | .cons c r, ε, Q => ev Φ c ε fun d ε1 => evs Φ r ε1 fun ds ε2 => Q (d :: ds) ε2
def evT (Φ : Tab) : T → Env → (Bool → Env → Prop) → Prop
  | .v c, ε, Q => ev Φ c ε fun d ε1 => match truthD d with
    | some b => Q b ε1
    | none => False
  | .nd a b, ε, Q => evT Φ a ε fun c ε1 => if c = true then evT Φ b ε1 Q else Q false ε1
  | .or a b, ε, Q => evT Φ a ε fun c ε1 => if c = true then Q true ε1 else evT Φ b ε1 Q
  | .nt a, ε, Q => evT Φ a ε fun c ε1 => Q (!c) ε1
  | .yes, ε, Q => Q true ε
def evO (Φ : Tab) : O → Env → (Option Int → Env → Prop) → Prop
  | .no, ε, Q => Q none ε
  | .so c, ε, Q => ev Φ c ε fun d ε1 => match d with
    | .int i => Q (some i) ε1
    | _ => False
end
/-- what is wanted behind a statement -/
structure Po where
  nx : Env → Prop
  rt : PyData → Env → Prop
  bk : Env → Prop
  ct : Env → Prop
def forL (f : PyData → Env → Po → Prop) : List PyData → Env → Po → Prop
  | [], ε, P => P.nx ε
  | d :: ds, ε, P => f d ε { nx := fun ε' => forL f ds ε' P, rt := P.rt, bk := P.nx, ct := fun ε' => forL f ds ε' P }
def whlN (t : Env → (Bool → Env → Prop) → Prop) (f : Env → Po → Prop) : Nat → Env → Po → Prop
  | 0, _, _ => False
  | n + 1, ε, P => t ε fun c ε1 => if c = true then f ε1 { nx := fun ε' => whlN t f n ε' P, rt := P.rt, bk := P.nx, ct := fun ε' => whlN t f n ε' P } else P.nx ε1
def setAll : List Nat → List PyData → Env → Option Env
  | [], [], ε => some ε
  | i :: is, d :: ds, ε => setAll is ds (ε.set i (.sh d))
  | _, _, _ => none
def exS (Φ : Tab) : S → Env → Po → Prop
  | .skip, ε, P => P.nx ε
  | .seq a b, ε, P => exS Φ a ε { nx := fun ε' => exS Φ b ε' P, rt := P.rt, bk := P.bk, ct := P.ct }
  | .asg i e, ε, P => ev Φ e ε fun d ε' => P.nx (ε'.set i (.sh d))
  | .asgO i e, ε, P => ev Φ e ε fun d ε' => P.nx (ε'.set i (.ow d))
  | .asgT t e, ε, P => ev Φ e ε fun d ε' => match tgS t d ε' with
    | some ε1 => P.nx ε1
    | none => False
  | .par is es, ε, P => evs Φ es ε fun ds ε' => match setAll is ds ε' with
    | some ε1 => P.nx ε1
    | none => False
  | .seti p ix e, ε, P => ev Φ e ε fun d ε1 => owB (p.get ε1) = true ∧ ev Φ ix ε1 fun k ε2 => match p.get ε2 with
    | some (.ow c) => retD (setS c k d) fun c' => P.nx (p.put (.ow c') ε2)
    | _ => False
  | .mut p m e, ε, P => muK m (p.get ε) = true ∧ ev Φ e ε fun d ε' => okO e d ε' ∧ (match p.get ε' with
    | some (.ow c) => retD (muS m c d) fun c' => P.nx (p.put (.ow c') ε')
    | _ => False)
  | .ifs t a b, ε, P => evT Φ t ε fun c ε' => if c = true then exS Φ a ε' P else exS Φ b ε' P
  | .fr t k its b, ε, P => evs Φ its ε fun ds ε' => match itS k ds with
    | some xs => forL (fun d ε0 P' => match tgS t d ε0 with
        | some ε1 => exS Φ b ε1 P'
        | none => False) xs ε' P
    | none => False
  | .whl t b, ε, P => ∃ n, whlN (fun ε0 q => evT Φ t ε0 q) (fun ε0 P' => exS Φ b ε0 P') n ε P
  | .ret e, ε, P => ev Φ e ε fun d ε' => P.rt d ε'
  | .retN, ε, P => P.rt .none ε
  | .brk, ε, P => P.bk ε
  | .cnt, ε, P => P.ct ε
  | .pas, ε, P => P.nx ε
  | .nev, _, _ => False
  | .frz p, ε, P => match p.get ε with
    | some (.ow d) => P.nx (p.put (.sh d) ε)
    | some (.sh _) => P.nx ε
    | none => False
  | .exp e, ε, P => ev Φ e ε fun _ ε' => P.nx ε'
/-- a def: its parameters, its slots, its body -/
structure FnD where
  np : Nat
  ns : Nat
  body : S
def entry (D : FnD) (ds : List PyData) : Env := ds.map .sh ++ List.replicate (D.ns - D.np) .un
def runD (Φ : Tab) (D : FnD) (ds : List PyData) (Q : PyData → Prop) : Prop :=
  ds.length = D.np ∧ exS Φ D.body (entry D ds) { nx := fun _ => Q .none, rt := fun d _ => Q d, bk := fun _ => False, ct := fun _ => False }
/-- the defs by their numbers; some are told by hand -/
structure Prg where
  fns : List FnD
  own : Nat → Option (List PyData → (PyData → Prop) → Prop)
def Phi (G : Prg) : Nat → Tab
  | 0, _, _, _ => False
  | k + 1, f, ds, Q => match G.own f with
    | some g => g ds Q
    | none => match G.fns[f]? with
      | some D => runD (Phi G k) D ds Q
      | none => False
end
end Ev
/-! Ev3: the meaning is monotone; the slots over the heap -/
namespace Ev
open PySem PySem.Spec PyProof.Rows L2
def Tab.Mono (Φ : Tab) : Prop := ∀ f ds Q Q', (∀ d, Q d → Q' d) → Φ f ds Q → Φ f ds Q'
theorem retD_mono {r : Option PyData} {Q Q' : PyData → Prop} (h : retD r Q) (k : ∀ d, Q d → Q' d) : retD r Q' := by
  cases r with
  | none => exact h
  | some d => exact k d h
theorem retD_some {r : Option PyData} {Q : PyData → Prop} (h : retD r Q) : ∃ d, r = some d ∧ Q d := by
  cases r with
  | none => exact h.elim
  | some d => exact ⟨d, rfl, h⟩
theorem compL_mono {f : PyData → Env → (Option PyData → Env → Prop) → Prop} (hf : ∀ d ε q q', (∀ r ε', q r ε' → q' r ε') → f d ε q → f d ε q') :
    ∀ {ds acc : List PyData} {ε : Env} {Q Q' : List PyData → Env → Prop}, (∀ ys ε', Q ys ε' → Q' ys ε') → compL f ds acc ε Q → compL f ds acc ε Q'
  | [], acc, ε, Q, Q', k, h => k _ _ h
  | d :: ds, acc, ε, Q, Q', k, h => by
    refine hf _ _ _ _ (fun r ε' z => ?_) h
    cases r with
    | some y => exact ⟨z.1, compL_mono hf k z.2⟩
    | none => exact compL_mono hf k z
structure Po.Le (P P' : Po) : Prop where
  nx : ∀ ε, P.nx ε → P'.nx ε
  rt : ∀ d ε, P.rt d ε → P'.rt d ε
  bk : ∀ ε, P.bk ε → P'.bk ε
  ct : ∀ ε, P.ct ε → P'.ct ε
theorem forL_mono {f : PyData → Env → Po → Prop} (hf : ∀ d ε P P', Po.Le P P' → f d ε P → f d ε P') : ∀ {ds : List PyData} {ε : Env} {P P' : Po}, Po.Le P P' → forL f ds ε P → forL f ds ε P'
  | [], ε, P, P', k, h => k.nx _ h
  | d :: ds, ε, P, P', k, h => by
    have h : f d ε { nx := fun ε' => forL f ds ε' P, rt := P.rt, bk := P.nx, ct := fun ε' => forL f ds ε' P } := h
    refine hf _ _ _ _ ?_ h
    exact ⟨fun _ z => forL_mono hf k z, k.rt, k.nx, fun _ z => forL_mono hf k z⟩
theorem whlN_mono {t : Env → (Bool → Env → Prop) → Prop} {f : Env → Po → Prop} (ht : ∀ ε q q', (∀ b ε', q b ε' → q' b ε') → t ε q → t ε q') (hf : ∀ ε P P', Po.Le P P' → f ε P → f ε P') :
    ∀ {n : Nat} {ε : Env} {P P' : Po}, Po.Le P P' → whlN t f n ε P → whlN t f n ε P'
  | 0, _, _, _, _, h => h
  | n + 1, ε, P, P', k, h => by
    refine ht _ _ _ (fun b ε1 z => ?_) h
    cases b with
    | true =>
      have z : f ε1 { nx := fun ε' => whlN t f n ε' P, rt := P.rt, bk := P.nx, ct := fun ε' => whlN t f n ε' P } := z
      refine hf _ _ _ ?_ z
      exact ⟨fun _ z => whlN_mono ht hf k z, k.rt, k.nx, fun _ z => whlN_mono ht hf k z⟩
    | false => exact k.nx _ z
section
variable {Φ : Tab} (hΦ : Φ.Mono)
include hΦ
mutual
theorem ev_mono : ∀ (c : C) (ε : Env) {Q Q' : PyData → Env → Prop}, (∀ d ε', Q d ε' → Q' d ε') → ev Φ c ε Q → ev Φ c ε Q'
  | .rd p, ε, Q, Q', k, h => by
    simp only [ev] at h ⊢
    split at h
    · exact k _ _ h
    · exact h
  | .own p, ε, Q, Q', k, h => by
    simp only [ev] at h ⊢
    split at h
    · exact k _ _ h
    · exact h
  | .int n, ε, Q, Q', k, h => by simp only [ev] at h ⊢; exact k _ _ h
  | .bl b, ε, Q, Q', k, h => by simp only [ev] at h ⊢; exact k _ _ h
  | .non, ε, Q, Q', k, h => by simp only [ev] at h ⊢; exact k _ _ h
  | .str s, ε, Q, Q', k, h => by simp only [ev] at h ⊢; exact k _ _ h
  | .tup es, ε, Q, Q', k, h => by simp only [ev] at h ⊢; exact evs_mono es ε (fun _ _ z => k _ _ z) h
  | .lst es, ε, Q, Q', k, h => by simp only [ev] at h ⊢; exact evs_mono es ε (fun _ _ z => k _ _ z) h
  | .dnew t, ε, Q, Q', k, h => by simp only [ev] at h ⊢; exact k _ _ h
  | .op o a b, ε, Q, Q', k, h => by
    simp only [ev] at h ⊢
    exact ev_mono a ε (fun _ _ z => ev_mono b _ (fun _ _ z => ⟨z.1, retD_mono z.2 fun _ z => k _ _ z⟩) z) h
  | .un o a, ε, Q, Q', k, h => by
    simp only [ev] at h ⊢
    exact ev_mono a ε (fun _ _ z => retD_mono z fun _ z => k _ _ z) h
  | .chain o p a b c, ε, Q, Q', k, h => by
    simp only [ev] at h ⊢
    refine ev_mono a ε (fun _ _ z => ev_mono b _ (fun _ _ z => ⟨z.1, ?_⟩) z) h
    have z2 := z.2
    split at z2
    · exact ev_mono c _ (fun _ _ z => ⟨z.1, retD_mono z.2 fun _ z => k _ _ z⟩) z2
    · exact k _ _ z2
    · exact z2
  | .nd a b, ε, Q, Q', k, h => by
    simp only [ev] at h ⊢
    refine ev_mono a ε (fun _ _ z => ?_) h
    split at z
    · exact ev_mono b _ (fun _ _ z => k _ _ z) z
    · exact k _ _ z
    · exact z
  | .or a b, ε, Q, Q', k, h => by
    simp only [ev] at h ⊢
    refine ev_mono a ε (fun _ _ z => ?_) h
    split at z
    · exact k _ _ z
    · exact ev_mono b _ (fun _ _ z => k _ _ z) z
    · exact z
  | .ite t a b, ε, Q, Q', k, h => by
    simp only [ev] at h ⊢
    refine evT_mono t ε (fun c _ z => ?_) h
    cases c with
    | true => exact ev_mono a _ (fun _ _ z => k _ _ z) z
    | false => exact ev_mono b _ (fun _ _ z => k _ _ z) z
  | .idx a i, ε, Q, Q', k, h => by
    simp only [ev] at h ⊢
    exact ev_mono a ε (fun _ _ z => ev_mono i _ (fun _ _ z => ⟨z.1, retD_mono z.2 fun _ z => k _ _ z⟩) z) h
  | .slc a lo hi, ε, Q, Q', k, h => by
    simp only [ev] at h ⊢
    exact ev_mono a ε (fun _ _ z => evO_mono lo _ (fun _ _ z => evO_mono hi _ (fun _ _ z => ⟨z.1, retD_mono z.2 fun _ z => k _ _ z⟩) z) z) h
  | .rev a, ε, Q, Q', k, h => by
    simp only [ev] at h ⊢
    refine ev_mono a ε (fun _ _ z => ?_) h
    split at z
    · exact k _ _ z
    · exact z
  | .cl f es, ε, Q, Q', k, h => by
    simp only [ev] at h ⊢
    exact evs_mono es ε (fun _ _ z => hΦ _ _ _ _ (fun _ z => k _ _ z) z) h
  | .bi f es, ε, Q, Q', k, h => by
    simp only [ev] at h ⊢
    exact evs_mono es ε (fun _ _ z => ⟨z.1, retD_mono z.2 fun _ z => k _ _ z⟩) h
  | .mt m a es, ε, Q, Q', k, h => by
    simp only [ev] at h ⊢
    exact ev_mono a ε (fun _ _ z => ⟨z.1, evs_mono es _ (fun _ _ z => ⟨z.1, z.2.1, retD_mono z.2.2 fun _ z => k _ _ z⟩) z.2⟩) h
  | .comp vs t kk its cond elt, ε, Q, Q', k, h => by
    simp only [ev] at h ⊢
    refine evs_mono its ε (fun ds ε' z => ⟨z.1, ?_⟩) h
    have z2 := z.2
    split at z2
    · refine compL_mono (fun d ε0 q q' kq hq => ?_) (fun ys ε' z => k _ _ z) z2
      split at hq
      · refine evT_mono cond _ (fun b ε2 z => ?_) hq
        cases b with
        | true => exact ev_mono elt _ (fun _ _ z => kq _ _ z) z
        | false => exact kq _ _ z
      · exact hq
    · exact z2
theorem evs_mono : ∀ (c : Cs) (ε : Env) {Q Q' : List PyData → Env → Prop}, (∀ d ε', Q d ε' → Q' d ε') → evs Φ c ε Q → evs Φ c ε Q'
  | .nil, ε, Q, Q', k, h => by simp only [evs] at h ⊢; exact k _ _ h
  | .cons c r, ε, Q, Q', k, h => by
    simp only [evs] at h ⊢
    exact ev_mono c ε (fun _ _ z => evs_mono r _ (fun _ _ z => k _ _ z) z) h
theorem evT_mono : ∀ (c : T) (ε : Env) {Q Q' : Bool → Env → Prop}, (∀ d ε', Q d ε' → Q' d ε') → evT Φ c ε Q → evT Φ c ε Q'
  | .v c, ε, Q, Q', k, h => by
    simp only [evT] at h ⊢
    refine ev_mono c ε (fun _ _ z => ?_) h
    split at z
    · exact k _ _ z
    · exact z
  | .nd a b, ε, Q, Q', k, h => by
    simp only [evT] at h ⊢
    refine evT_mono a ε (fun c _ z => ?_) h
    cases c with
    | true => exact evT_mono b _ (fun _ _ z => k _ _ z) z
    | false => exact k _ _ z
  | .or a b, ε, Q, Q', k, h => by
    simp only [evT] at h ⊢
    refine evT_mono a ε (fun c _ z => ?_) h
    cases c with
    | true => exact k _ _ z
    | false => exact evT_mono b _ (fun _ _ z => k _ _ z) z
  | .nt a, ε, Q, Q', k, h => by
    simp only [evT] at h ⊢
    exact evT_mono a ε (fun c _ z => k _ _ z) h
  | .yes, ε, Q, Q', k, h => by simp only [evT] at h ⊢; exact k _ _ h
theorem evO_mono : ∀ (c : O) (ε : Env) {Q Q' : Option Int → Env → Prop}, (∀ d ε', Q d ε' → Q' d ε') → evO Φ c ε Q → evO Φ c ε Q'
  | .no, ε, Q, Q', k, h => by simp only [evO] at h ⊢; exact k _ _ h
  | .so c, ε, Q, Q', k, h => by
    simp only [evO] at h ⊢
    refine ev_mono c ε (fun _ _ z => ?_) h
    split at z
    · exact k _ _ z
    · exact z
end
theorem exS_mono : ∀ (s : S) (ε : Env) {P P' : Po}, Po.Le P P' → exS Φ s ε P → exS Φ s ε P'
  | .skip, ε, P, P', k, h => by simp only [exS] at h ⊢; exact k.nx _ h
  | .seq a b, ε, P, P', k, h => by
    simp only [exS] at h ⊢
    refine exS_mono a ε ?_ h
    exact ⟨fun _ z => exS_mono b _ k z, k.rt, k.bk, k.ct⟩
  | .asg i e, ε, P, P', k, h => by simp only [exS] at h ⊢; exact ev_mono hΦ e ε (fun _ _ z => k.nx _ z) h
  | .asgO i e, ε, P, P', k, h => by simp only [exS] at h ⊢; exact ev_mono hΦ e ε (fun _ _ z => k.nx _ z) h
  | .asgT t e, ε, P, P', k, h => by
    simp only [exS] at h ⊢
    refine ev_mono hΦ e ε (fun _ _ z => ?_) h
    split at z
    · exact k.nx _ z
    · exact z
  | .par is es, ε, P, P', k, h => by
    simp only [exS] at h ⊢
    refine evs_mono hΦ es ε (fun _ _ z => ?_) h
    split at z
    · exact k.nx _ z
    · exact z
  | .seti p ix e, ε, P, P', k, h => by
    simp only [exS] at h ⊢
    refine ev_mono hΦ e ε (fun _ _ z => ⟨z.1, ev_mono hΦ ix _ (fun _ _ z => ?_) z.2⟩) h
    split at z
    · exact retD_mono z fun _ z => k.nx _ z
    · exact z
  | .mut p m e, ε, P, P', k, h => by
    simp only [exS] at h ⊢
    refine ⟨h.1, ev_mono hΦ e ε (fun _ _ z => ⟨z.1, ?_⟩) h.2⟩
    have z2 := z.2
    split at z2
    · exact retD_mono z2 fun _ z => k.nx _ z
    · exact z2
  | .ifs t a b, ε, P, P', k, h => by
    simp only [exS] at h ⊢
    refine evT_mono hΦ t ε (fun c _ z => ?_) h
    cases c with
    | true => exact exS_mono a _ k z
    | false => exact exS_mono b _ k z
  | .fr t kk its b, ε, P, P', k, h => by
    simp only [exS] at h ⊢
    refine evs_mono hΦ its ε (fun ds ε' z => ?_) h
    split at z
    · refine forL_mono (fun d ε0 P P' kq hq => ?_) k z
      split at hq
      · exact exS_mono b _ kq hq
      · exact hq
    · exact z
  | .whl t b, ε, P, P', k, h => by
    simp only [exS] at h ⊢
    obtain ⟨n, h⟩ := h
    exact ⟨n, whlN_mono (fun ε q q' kq hq => evT_mono hΦ t ε kq hq) (fun ε P P' kq hq => exS_mono b ε kq hq) k h⟩
  | .ret e, ε, P, P', k, h => by simp only [exS] at h ⊢; exact ev_mono hΦ e ε (fun _ _ z => k.rt _ _ z) h
  | .retN, ε, P, P', k, h => by simp only [exS] at h ⊢; exact k.rt _ _ h
  | .brk, ε, P, P', k, h => by simp only [exS] at h ⊢; exact k.bk _ h
  | .cnt, ε, P, P', k, h => by simp only [exS] at h ⊢; exact k.ct _ h
  | .pas, ε, P, P', k, h => by simp only [exS] at h ⊢; exact k.nx _ h
  | .nev, ε, P, P', k, h => by simp only [exS] at h
  | .frz p, ε, P, P', k, h => by
    simp only [exS] at h ⊢
    split at h
    · exact k.nx _ h
    · exact k.nx _ h
    · exact h
  | .exp e, ε, P, P', k, h => by simp only [exS] at h ⊢; exact ev_mono hΦ e ε (fun _ _ z => k.nx _ z) h
end
theorem evs_len {Φ : Tab} (hΦ : Φ.Mono) : ∀ (cs : Cs) (ε : Env) {q : List PyData → Env → Prop}, evs Φ cs ε q → evs Φ cs ε fun ds ε' => ds.length = cs.len ∧ q ds ε'
  | .nil, ε, q, h => by simp only [evs, Cs.len, List.length_nil] at h ⊢; exact ⟨trivial, h⟩
  | .cons c r, ε, q, h => by
    simp only [evs, Cs.len, List.length_cons] at h ⊢
    refine ev_mono hΦ c ε (fun d ε1 z => ?_) h
    exact evs_mono hΦ r ε1 (fun ds ε2 z => ⟨by rw [z.1], z.2⟩) (evs_len hΦ r ε1 z)
theorem Phi_mono {G : Prg} (hG : ∀ f g, G.own f = some g → ∀ ds Q Q', (∀ d, Q d → Q' d) → g ds Q → g ds Q') : ∀ k, (Phi G k).Mono
  | 0, f, ds, Q, Q', _, h => h
  | k + 1, f, ds, Q, Q', hq, h => by
    simp only [Phi] at h ⊢
    split at h
    · rename_i g e
      exact hG f g e ds Q Q' hq h
    · split at h
      · refine ⟨h.1, exS_mono (Phi_mono hG k) _ _ ?_ h.2⟩
        exact ⟨fun _ z => hq _ z, fun _ _ z => hq _ z, fun _ z => z, fun _ z => z⟩
      · exact h
/-! ### the slots over the heap -/
def SlotR (Z : Zs) (F H : Hp) (v : Option (Option V)) : Sl → List Addr → Prop
  | .un, fp => fp = []
  | .sh d, fp => fp = [] ∧ ∃ w, v = some (some w) ∧ Rp Z F w d
  | .ow d, fp => ∃ a o, fp = [a] ∧ v = some (some (.ref a)) ∧ F a = none ∧ a ∉ Z.dom ∧ H a = some o ∧ Shp Z F o d
  | .ob _ _, _ => False
structure StR (Z : Zs) (F H : Hp) (σ : L2.St) (ε : Env) (fp : Nat → List Addr) : Prop where
  len : σ.length = ε.length
  sl : ∀ i s, ε[i]? = some s → SlotR Z F H σ[i]? s (fp i)
  dj : ∀ i j a, a ∈ fp i → a ∈ fp j → i = j
  out : ∀ i, ε.length ≤ i → fp i = []
def Mf (fp : Nat → List Addr) : Ms := fun b => ∃ i, b ∈ fp i
section
variable {Z : Zs} {F F' H H' : Hp} {σ : L2.St} {ε : Env} {fp : Nat → List Addr}
theorem SlotR.own {v : Option (Option V)} {s : Sl} {fpi : List Addr} (h : SlotR Z F H v s fpi) {a : Addr} (ha : a ∈ fpi) : ∃ o, F a = none ∧ a ∉ Z.dom ∧ H a = some o := by
  cases s with
  | un => rw [show fpi = [] from h] at ha; cases ha
  | sh d => rw [h.1] at ha; cases ha
  | ow d =>
    obtain ⟨b, o, e, _, f, n, k, _⟩ := h
    rw [e] at ha
    have : a = b := by simpa using ha
    subst this
    exact ⟨o, f, n, k⟩
  | ob _ _ => exact h.elim
theorem SlotR.gr {v : Option (Option V)} {s : Sl} {fpi : List Addr} (h : SlotR Z F H v s fpi) (hF : ∀ a o, F a = some o → F' a = some o) (hn : ∀ a, a ∈ fpi → F' a = none ∧ H' a = H a) : SlotR Z F' H' v s fpi := by
  cases s with
  | un => exact h
  | sh d => exact ⟨h.1, let ⟨w, e, r⟩ := h.2; ⟨w, e, r.mono hF⟩⟩
  | ow d =>
    obtain ⟨b, o, e, ev, f, n, k, s⟩ := h
    obtain ⟨z1, z2⟩ := hn b (by rw [e]; simp)
    exact ⟨b, o, e, ev, z1, n, by rw [z2]; exact k, s.mono hF⟩
  | ob _ _ => exact h.elim
theorem StR.own (st : StR Z F H σ ε fp) {i : Nat} {a : Addr} (ha : a ∈ fp i) : ∃ o, F a = none ∧ a ∉ Z.dom ∧ H a = some o := by
  cases e : ε[i]? with
  | none => rw [st.out i (List.getElem?_eq_none_iff.mp e)] at ha; cases ha
  | some s => exact (st.sl i s e).own ha
theorem StR.ownM (st : StR Z F H σ ε fp) {a : Addr} (ha : Mf fp a) : ∃ o, F a = none ∧ a ∉ Z.dom ∧ H a = some o := let ⟨_, h⟩ := ha; st.own h
theorem StR.noM (st : StR Z F H σ ε fp) {a : Addr} (hn : H a = none) : ¬ Mf fp a := fun z => by
  obtain ⟨o, _, _, e⟩ := st.ownM z
  rw [hn] at e; cases e
theorem StR.grow (st : StR Z F H σ ε fp) (hF : ∀ a o, F a = some o → F' a = some o) (hn : ∀ a, Mf fp a → F' a = none ∧ H' a = H a) : StR Z F' H' σ ε fp :=
  ⟨st.len, fun i s e => (st.sl i s e).gr hF fun a ha => hn a ⟨i, ha⟩, st.dj, st.out⟩
/-- nothing but new objects -/
theorem StR.gr0 (st : StR Z F H σ ε fp) (g : Gr Z M0 F H M0 F' H') : StR Z F' H' σ ε fp := by
  refine st.grow g.fro fun a ha => ?_
  obtain ⟨o, f, n, k⟩ := st.ownM ha
  exact ⟨g.free f (fun z => z) k, by rw [k]; exact g.keep a o n (fun z => z) k⟩
theorem StR.set (st : StR Z F H σ ε fp) (i : Nat) {v : V} {s : Sl} {fpi : List Addr} (h : SlotR Z F H (some (some v)) s fpi) (hd : ∀ a, a ∈ fpi → ¬ Mf fp a ∨ a ∈ fp i) (hl : fpi = [] ∨ i < ε.length) :
    StR Z F H (σ.set i (some v)) (ε.set i s) (fun j => if j = i then fpi else fp j) where
  len := by rw [List.length_set, List.length_set]; exact st.len
  sl := fun j t e => by
    by_cases hj : j = i
    · subst hj
      have hlt : j < ε.length := by have := (List.getElem?_eq_some_iff.mp e).1; simpa using this
      rw [List.getElem?_set_self hlt] at e
      cases e
      rw [List.getElem?_set_self (by rw [st.len]; exact hlt), if_pos rfl]
      exact h
    · rw [List.getElem?_set_ne (Ne.symm hj)] at e ⊢
      rw [if_neg hj]
      exact st.sl j t e
  dj := fun j k a h1 h2 => by
    by_cases hj : j = i
    · by_cases hk : k = i
      · rw [hj, hk]
      · rw [if_pos hj] at h1
        rw [if_neg hk] at h2
        rcases hd a h1 with z | z
        · exact (z ⟨k, h2⟩).elim
        · exact absurd (st.dj k i a h2 z) hk
    · by_cases hk : k = i
      · rw [if_neg hj] at h1
        rw [if_pos hk] at h2
        rcases hd a h2 with z | z
        · exact (z ⟨j, h1⟩).elim
        · exact absurd (st.dj j i a h1 z) hj
      · rw [if_neg hj] at h1
        rw [if_neg hk] at h2
        exact st.dj j k a h1 h2
  out := fun j hj => by
    rw [List.length_set] at hj
    by_cases e : j = i
    · rw [if_pos e]
      rcases hl with z | z
      · exact z
      · omega
    · rw [if_neg e]; exact st.out j hj
theorem StR.setSh (st : StR Z F H σ ε fp) (i : Nat) {v : V} {d : PyData} (r : Rp Z F v d) : StR Z F H (σ.set i (some v)) (ε.set i (.sh d)) (fun j => if j = i then [] else fp j) :=
  st.set i ⟨rfl, v, rfl, r⟩ (fun a ha => by cases ha) (.inl rfl)
theorem Mf.set {i : Nat} {fpi : List Addr} {b : Addr} (h : Mf (fun j => if j = i then fpi else fp j) b) : Mf fp b ∨ b ∈ fpi := by
  obtain ⟨j, h⟩ := h
  by_cases e : j = i
  · simp only [if_pos e] at h; exact .inr h
  · simp only [if_neg e] at h; exact .inl ⟨j, h⟩
theorem Gr.less {M M1 : Ms} (hi : HI Z F H) (h : ∀ b, M1 b → M b) : Gr Z M F H M1 F H := ⟨fun _ _ _ _ e => e, fun _ e => e, fun _ _ e => e, fun _ _ e => .inl e, fun b z => .inl (h b z), hi⟩
/-- the own slots left out -/
theorem StR.wipe1 (st : StR Z F H σ ε fp) (i : Nat) : StR Z F H (σ.set i none) (ε.set i .un) (fun j => if j = i then [] else fp j) where
  len := by rw [List.length_set, List.length_set]; exact st.len
  sl := fun j t e => by
    by_cases hj : j = i
    · subst hj
      have hlt : j < ε.length := by have := (List.getElem?_eq_some_iff.mp e).1; simpa using this
      rw [List.getElem?_set_self hlt] at e
      cases e
      rw [if_pos rfl]
      exact rfl
    · rw [List.getElem?_set_ne (Ne.symm hj)] at e ⊢
      rw [if_neg hj]
      exact st.sl j t e
  dj := fun j k a h1 h2 => by
    by_cases hj : j = i
    · rw [if_pos hj] at h1; cases h1
    · by_cases hk : k = i
      · rw [if_pos hk] at h2; cases h2
      · rw [if_neg hj] at h1
        rw [if_neg hk] at h2
        exact st.dj j k a h1 h2
  out := fun j hj => by
    rw [List.length_set] at hj
    by_cases e : j = i
    · rw [if_pos e]
    · rw [if_neg e]; exact st.out j hj
theorem StR.wipe : ∀ (vs : List Nat), StR Z F H σ ε fp → ∃ fp', StR Z F H (wipe σ vs) (wipeE ε vs) fp' ∧ (∀ j, j ∈ vs → fp' j = []) ∧ (∀ j, j ∉ vs → fp' j = fp j)
  | [], st => ⟨fp, st, fun _ h => absurd h (by simp), fun _ _ => rfl⟩
  | v :: vs, st => by
    obtain ⟨fp', st', h1, h2⟩ := StR.wipe vs st
    refine ⟨_, st'.wipe1 v, fun j hj => ?_, fun j hj => ?_⟩
    · by_cases e : j = v
      · simp [e]
      · have : j ∈ vs := by rcases List.mem_cons.mp hj with z | z; exact absurd z e; exact z
        simp only [if_neg e]; exact h1 j this
    · have e : j ≠ v := fun z => hj (z ▸ List.mem_cons_self)
      simp only [if_neg e]; exact h2 j (fun z => hj (List.mem_cons_of_mem _ z))
/-- a way that leaves the slots' objects (those of fpIn may change); the parked ones stay -/
theorem backE_len (ε ε' : Env) : ∀ vs, (backE ε ε' vs).length = ε'.length
  | [] => rfl
  | v :: vs => by rw [backE, List.length_set, backE_len ε ε' vs]
theorem backE_in {ε ε' : Env} (hl : ε.length = ε'.length) : ∀ {vs : List Nat} {i : Nat}, i ∈ vs → i < ε'.length → (backE ε ε' vs)[i]? = ε[i]?
  | v :: vs, i, h, hi => by
    rw [backE]
    by_cases e : i = v
    · subst e
      rw [List.getElem?_set_self (by rw [backE_len]; exact hi)]
      rw [List.getElem?_eq_getElem (by omega)]
      rfl
    · rw [List.getElem?_set_ne (Ne.symm e)]
      rcases List.mem_cons.mp h with z | z
      · exact absurd z e
      · exact backE_in hl z hi
theorem backE_out {ε ε' : Env} : ∀ {vs : List Nat} {i : Nat}, i ∉ vs → (backE ε ε' vs)[i]? = ε'[i]?
  | [], _, _ => rfl
  | v :: vs, i, h => by
    rw [backE, List.getElem?_set_ne (fun (z : v = i) => h (z ▸ List.mem_cons_self))]
    exact backE_out fun z => h (List.mem_cons_of_mem _ z)
theorem wipe_in {σ : L2.St} : ∀ {vs : List Nat} {i : Nat}, i ∈ vs → i < σ.length → (L2.wipe σ vs)[i]? = some none
  | v :: vs, i, h, hi => by
    rw [L2.wipe]
    by_cases e : i = v
    · subst e; rw [List.getElem?_set_self (by rw [wipe_length]; exact hi)]
    · rw [List.getElem?_set_ne (Ne.symm e)]
      rcases List.mem_cons.mp h with z | z
      · exact absurd z e
      · exact wipe_in z hi
theorem wipe_out' {σ : L2.St} : ∀ {vs : List Nat} {i : Nat}, i ∉ vs → (L2.wipe σ vs)[i]? = σ[i]?
  | [], _, _ => rfl
  | v :: vs, i, h => by
    rw [L2.wipe, List.getElem?_set_ne (fun (z : v = i) => h (z ▸ List.mem_cons_self))]
    exact wipe_out' fun z => h (List.mem_cons_of_mem _ z)
/-- behind a block -/
theorem StR.back {vs : List Nat} {fpI fpI' : Nat → List Addr} {F' H' : Hp} {σ2 : L2.St} {ε' : Env} (st : StR Z F H σ ε fp) (hin : ∀ j, j ∈ vs → fpI j = []) (hout : ∀ j, j ∉ vs → fpI j = fp j)
    (g : Gr Z (Mf fpI) F H (Mf fpI') F' H') (st' : StR Z F' H' σ2 ε' fpI') (hσ : ∀ j, j ∉ vs → σ2[j]? = σ[j]?) (hl : σ2.length = σ.length) :
    ∃ fp', StR Z F' H' σ (backE ε ε' vs) fp' ∧ Gr Z (Mf fp) F H (Mf fp') F' H' := by
  have hle : ε.length = ε'.length := by rw [← st.len, ← st'.len, hl]
  have park : ∀ j a, j ∈ vs → a ∈ fp j → F' a = none ∧ H' a = H a ∧ ¬ Mf fpI' a := fun j a hj ha => by
    obtain ⟨o, f, n, k⟩ := st.own ha
    have hm : ¬ Mf fpI a := fun ⟨i, hi⟩ => by
      by_cases h : i ∈ vs
      · rw [hin i h] at hi; cases hi
      · rw [hout i h] at hi
        exact h (st.dj i j a hi ha ▸ hj)
    exact ⟨g.free f hm k, by rw [k]; exact g.keep a o n hm k, g.noM hm k⟩
  have own' : ∀ b, Mf (fun j => if j ∈ vs then fp j else fpI' j) b → Mf fp b ∨ H b = none := fun b ⟨j, hj⟩ => by
    by_cases h : j ∈ vs
    · simp only [if_pos h] at hj; exact .inl ⟨j, hj⟩
    · simp only [if_neg h] at hj
      rcases g.own b ⟨j, hj⟩ with ⟨i, hi⟩ | z
      · by_cases h' : i ∈ vs
        · rw [hin i h'] at hi; cases hi
        · rw [hout i h'] at hi; exact .inl ⟨i, hi⟩
      · exact .inr z
  have sub : ∀ b, Mf fpI b → Mf fp b := fun b ⟨i, hi⟩ => by
    by_cases h' : i ∈ vs
    · rw [hin i h'] at hi; cases hi
    · rw [hout i h'] at hi; exact ⟨i, hi⟩
  refine ⟨fun j => if j ∈ vs then fp j else fpI' j, ⟨by rw [backE_len, ← hle]; exact st.len, fun i s e => ?_, fun i j a h1 h2 => ?_, fun i hi => ?_⟩, ⟨fun b o n m e => g.keep b o n (fun z => m (sub b z)) e, g.there, g.fro, fun b o e => ?_, own', g.hi⟩⟩
  · have hi : i < ε'.length := by have := (List.getElem?_eq_some_iff.mp e).1; rw [backE_len] at this; exact this
    by_cases h : i ∈ vs
    · rw [backE_in hle h hi] at e
      simp only [if_pos h]
      exact (st.sl i s e).gr g.fro fun a ha => ⟨(park i a h ha).1, (park i a h ha).2.1⟩
    · rw [backE_out h] at e
      simp only [if_neg h]
      rw [← hσ i h]
      exact st'.sl i s e
  · by_cases h : i ∈ vs
    · simp only [if_pos h] at h1
      by_cases h' : j ∈ vs
      · simp only [if_pos h'] at h2; exact st.dj i j a h1 h2
      · simp only [if_neg h'] at h2; exact ((park i a h h1).2.2 ⟨j, h2⟩).elim
    · simp only [if_neg h] at h1
      by_cases h' : j ∈ vs
      · simp only [if_pos h'] at h2; exact ((park j a h' h2).2.2 ⟨i, h1⟩).elim
      · simp only [if_neg h'] at h2; exact st'.dj i j a h1 h2
  · rw [backE_len] at hi
    by_cases h : i ∈ vs
    · simp only [if_pos h]; exact st.out i (by omega)
    · simp only [if_neg h]; exact st'.out i hi
  · rcases g.new b o e with z | z | z
    · exact .inl z
    · exact .inr (.inl z)
    · exact .inr (.inr (sub b z))
end
end Ev
/-! Ev4: operations over data, by the hand layer's value rules -/
namespace Ev
open PySem PySem.Spec PyProof.Rows L2
/-- what is wanted of a result r behind H -/
def Nx (Z : Zs) (F H : Hp) (r : PyData) (Q : VK) : Prop := ∀ v F' H', Gr Z M0 F H M0 F' H' → Rp Z F' v r → Q v H'
section
variable {Z : Zs} {F H : Hp} {r : PyData} {Q : VK}
theorem Nx.same (n : Nx Z F H r Q) (hi : HI Z F H) {v : V} (h : Rp Z F v r) : Q v H := n v F H (Gr.refl hi) h
theorem Nx.rd (n : Nx Z F H r Q) (hi : HI Z F H) {v : V} (h : Rp Z F v r) : Q v H := n.same hi h
theorem Nx.lst {xs : List V} {ds : List PyData} (n : Nx Z F H (.list ds) Q) (hi : HI Z F H) (r : RpA Z F xs ds) : ∀ p, H p = none → Q (.ref p) (upd H p (.lst xs)) := fun p hp =>
  n _ _ _ (hi.layS hp) (.lst upd_same (r.mono (hi.layS (o := .lst xs) hp).fro))
theorem Nx.tup {xs : List V} {ds : List PyData} (n : Nx Z F H (.tuple ds) Q) (hi : HI Z F H) (r : RpA Z F xs ds) : ∀ p, H p = none → Q (.ref p) (upd H p (.tup xs)) := fun p hp =>
  n _ _ _ (hi.layS hp) (.tup upd_same (r.mono (hi.layS (o := .tup xs) hp).fro))
theorem line_le {n : Nat} (h : n ≤ LIM) : n ≤ sizeLine := by rw [sizeLine_eq]; exact h
theorem line_lt {n : Nat} (h : n < LIM) : n < sizeLine := by rw [sizeLine_eq]; exact h
theorem RpA.flat : ∀ {vs : List V} {ds : List PyData}, RpA Z F vs ds → ds.all flatD = true → vs.all flatV = true
  | _, _, .nil, _ => rfl
  | _, _, .cons (v := v) (d := d) h r, f => by
    rw [List.all_cons, Bool.and_eq_true] at f ⊢
    refine ⟨?_, RpA.flat r f.2⟩
    have f1 := f.1
    cases h <;> first | rfl | simp [flatD] at f1
theorem flat_rd {v : V} {d : PyData} (h : Rdd Z F H v d) (f : flatD d = true) : Rp Z F v d ∧ flatV v = true := by
  rcases h with h | ⟨a, o, rfl, _, _, e, s⟩
  · refine ⟨h, ?_⟩
    cases h <;> first | rfl | simp [flatD] at f
  · cases d <;> first | exact (Bool.false_ne_true f).elim | (cases o <;> exact s.elim)
theorem flat_eqv {v w : V} {d e : PyData} (h : Rp Z F v d) (h' : Rp Z F w e) (f : flatD d = true) (f' : flatD e = true) : eqV v w = PyData.eqv d e := by
  cases h <;> first | exact (Bool.false_ne_true f).elim | (cases h' <;> first | exact (Bool.false_ne_true f').elim | simp [eqV, PyData.eqv])
theorem inV_any {x : V} {d : PyData} (hx : Rp Z F x d) (fx : flatD d = true) : ∀ {vs : List V} {ds : List PyData}, RpA Z F vs ds → ds.all flatD = true → inV x vs = ds.any fun z => PyData.eqv z d
  | _, _, .nil, _ => rfl
  | _, _, .cons h r, f => by
    rw [List.all_cons, Bool.and_eq_true] at f
    unfold inV
    rw [List.any_cons, List.any_cons, flat_eqv h hx f.1 fx]
    have := inV_any hx fx r f.2
    unfold inV at this
    rw [this]
theorem ints_of {vs : List V} : ∀ {ds : List PyData} {ns : List Int}, intsOf ds = some ns → RpA Z F vs ds → vs = ns.map V.int ∧ ds = ns.map .int := by
  intro ds
  induction ds generalizing vs with
  | nil => intro ns h r; simp [intsOf] at h; subst h; cases r; exact ⟨rfl, rfl⟩
  | cons d ds ih =>
    intro ns h r
    cases d <;> simp [intsOf] at h
    obtain ⟨ms, h1, rfl⟩ := h
    cases r with
    | cons r1 r2 =>
      obtain ⟨e1, e2⟩ := ih h1 r2
      cases r1
      subst e1 e2
      exact ⟨rfl, rfl⟩
theorem bls_of {vs : List V} : ∀ {ds : List PyData} {ns : List Bool}, blsOf ds = some ns → RpA Z F vs ds → vs = ns.map V.bl ∧ ds = ns.map .bool := by
  intro ds
  induction ds generalizing vs with
  | nil => intro ns h r; simp [blsOf] at h; subst h; cases r; exact ⟨rfl, rfl⟩
  | cons d ds ih =>
    intro ns h r
    cases d <;> simp [blsOf] at h
    obtain ⟨ms, h1, rfl⟩ := h
    cases r with
    | cons r1 r2 =>
      obtain ⟨e1, e2⟩ := ih h1 r2
      cases r1
      subst e1 e2
      exact ⟨rfl, rfl⟩
/-! ### two-place operations -/
def rD2 (o : Op2) : R2 := fun x y H Q => ∃ Z F d e r, HI Z F H ∧ Rdd Z F H x d ∧ Rdd Z F H y e ∧ op2 o d e = some r ∧ Nx Z F H r Q
def opB : Op2 → Option Operator
  | .add => some .Add
  | .sub => some .Sub
  | .mul => some .Mult
  | .fdiv => some .FloorDiv
  | .mod => some .Mod
  | _ => none
def opC : Op2 → Option CmpOp
  | .eq => some .Eq
  | .ne => some .NotEq
  | .lt => some .Lt
  | .le => some .LtE
  | .gt => some .Gt
  | .ge => some .GtE
  | .isin => some .In
  | .notin => some .NotIn
  | _ => none
section
variable {X : Cx}
theorem add_ok : OpR X (binaryOp .Add) (rD2 .add) := by
  intro pins s σ H x y v u Q I rx ry ⟨Z, F, d, e, r, hi, hx, hy, he, nx⟩
  cases d <;> cases e <;> simp only [op2] at he <;> try (cases he)
  · obtain rfl := hx.intv
    obtain rfl := hy.intv
    exact op_add pins s σ H _ _ v u Q I rx ry ⟨_, _, rfl, rfl, nx.same hi (.int _)⟩
  · split at he <;> cases he
    rename_i hl
    obtain ⟨a, xs, rfl, ha, r1⟩ := hx.list hi.sub
    obtain ⟨b, ys, rfl, hb, r2⟩ := hy.list hi.sub
    exact op_cat pins s σ H _ _ v u Q I rx ry ⟨a, b, xs, ys, rfl, rfl, ha, hb, by rw [r1.length, r2.length]; exact line_le hl, nx.lst hi (r1.append r2)⟩
  · split at he <;> cases he
    rename_i hl
    obtain ⟨a, xs, rfl, ha, r1⟩ := hx.tuple
    obtain ⟨b, ys, rfl, hb, r2⟩ := hy.tuple
    refine op_catA pins s σ H _ _ v u Q I rx ry ⟨a, b, xs, ys, rfl, rfl, .of (hi.sub _ _ ha), .of (hi.sub _ _ hb), by rw [r1.length, r2.length]; exact line_le hl, fun z => ?_, fun _ z => ?_, fun _ _ => nx.tup hi (r1.append r2)⟩
    · subst z
      cases r1
      exact nx.same hi (.tup hb r2)
    · subst z
      cases r2
      exact nx.same hi (.tup ha (by simpa using r1))
theorem sub_ok : OpR X (binaryOp .Sub) (rD2 .sub) := by
  intro pins s σ H x y v u Q I rx ry ⟨Z, F, d, e, r, hi, hx, hy, he, nx⟩
  cases d <;> cases e <;> simp only [op2] at he <;> try (cases he)
  obtain rfl := hx.intv
  obtain rfl := hy.intv
  exact op_sub pins s σ H _ _ v u Q I rx ry ⟨_, _, rfl, rfl, nx.same hi (.int _)⟩
theorem mulOk_of {i j : Int} (h : mulOk i j) : CMul i j := by
  unfold CMul
  rw [show (2 : Int) ^ 64 = 18446744073709551616 by decide]
  exact h
theorem mul_ok : OpR X (binaryOp .Mult) (rD2 .mul) := by
  intro pins s σ H x y v u Q I rx ry ⟨Z, F, d, e, r, hi, hx, hy, he, nx⟩
  cases d <;> cases e <;> simp only [op2] at he <;> try (cases he)
  · split at he <;> cases he
    rename_i hl
    obtain rfl := hx.intv
    obtain rfl := hy.intv
    exact op_mul pins s σ H _ _ v u Q I rx ry ⟨_, _, rfl, rfl, mulOk_of hl, nx.same hi (.int _)⟩
  · split at he <;> cases he
    rename_i hl
    obtain ⟨a, xs, rfl, ha, r1⟩ := hx.list hi.sub
    obtain rfl := hy.intv
    exact op_rep pins s σ H _ _ v u Q I rx ry ⟨a, _, xs, rfl, rfl, ha, hl.1, hl.2.1, by rw [r1.length]; exact line_le hl.2.2, nx.lst hi (r1.rep _)⟩
theorem fdiv_ok : OpR X (binaryOp .FloorDiv) (rD2 .fdiv) := by
  intro pins s σ H x y v u Q I rx ry ⟨Z, F, d, e, r, hi, hx, hy, he, nx⟩
  cases d <;> cases e <;> simp only [op2] at he <;> try (cases he)
  split at he <;> cases he
  rename_i hl
  obtain rfl := hx.intv
  obtain rfl := hy.intv
  exact op_fdiv pins s σ H _ _ v u Q I rx ry ⟨_, _, rfl, rfl, hl, nx.same hi (.int _)⟩
theorem mod_ok : OpR X (binaryOp .Mod) (rD2 .mod) := by
  intro pins s σ H x y v u Q I rx ry ⟨Z, F, d, e, r, hi, hx, hy, he, nx⟩
  cases d <;> cases e <;> simp only [op2] at he <;> try (cases he)
  split at he <;> cases he
  rename_i hl
  obtain rfl := hx.intv
  obtain rfl := hy.intv
  exact op_mod pins s σ H _ _ v u Q I rx ry ⟨_, _, rfl, rfl, hl, nx.same hi (.int _)⟩
theorem bin_ok {o : Op2} {b : Operator} (h : opB o = some b) : OpR X (binaryOp b) (rD2 o) := by
  cases o <;> simp [opB] at h <;> subst h
  · exact add_ok
  · exact sub_ok
  · exact mul_ok
  · exact fdiv_ok
  · exact mod_ok
theorem eq_ok (hu : X.A.units + 64 < cLine) : OpR X (compareOp .Eq) (rD2 .eq) := by
  intro pins s σ H x y v u Q I rx ry ⟨Z, F, d, e, r, hi, hx, hy, he, nx⟩
  have he : (if shaped2 d e = true then some (PyData.bool (PyData.eqv d e)) else none) = some r := by
    cases d <;> cases e <;> exact he
  split at he <;> cases he
  rename_i hs
  unfold shaped2 at hs
  rw [Bool.and_eq_true] at hs
  exact op_eqD hu pins s σ H _ _ v u Q I rx ry ⟨d, e, hx.dp hi.sub (SeqAt.canLay_of_shaped hs.1), hy.dp hi.sub (SeqAt.canLay_of_shaped hs.2), hs.1, hs.2, nx.same hi (.bl _)⟩
theorem ne_ok (hu : X.A.units + 64 < cLine) : OpR X (compareOp .NotEq) (rD2 .ne) := by
  intro pins s σ H x y v u Q I rx ry ⟨Z, F, d, e, r, hi, hx, hy, he, nx⟩
  have he : (if shaped2 d e = true then some (PyData.bool (!PyData.eqv d e)) else none) = some r := by
    cases d <;> cases e <;> exact he
  split at he <;> cases he
  rename_i hs
  unfold shaped2 at hs
  rw [Bool.and_eq_true] at hs
  exact op_neD hu pins s σ H _ _ v u Q I rx ry ⟨d, e, hx.dp hi.sub (SeqAt.canLay_of_shaped hs.1), hy.dp hi.sub (SeqAt.canLay_of_shaped hs.2), hs.1, hs.2, nx.same hi (.bl _)⟩
theorem lt_ok (hu : X.A.units + 64 < cLine) : OpR X (compareOp .Lt) (rD2 .lt) := by
  intro pins s σ H x y v u Q I rx ry ⟨Z, F, d, e, r, hi, hx, hy, he, nx⟩
  cases d <;> cases e <;> simp only [op2] at he <;> try (cases he)
  · obtain rfl := hx.intv
    obtain rfl := hy.intv
    exact op_lt pins s σ H _ _ v u Q I rx ry ⟨_, _, rfl, rfl, nx.same hi (.bl _)⟩
  · split at he <;> cases he
    rename_i ns ms h1 h2
    obtain ⟨a, xs, rfl, ha, r1⟩ := hx.tuple
    obtain ⟨b, ys, rfl, hb, r2⟩ := hy.tuple
    obtain ⟨rfl, rfl⟩ := ints_of h1 r1
    obtain ⟨rfl, rfl⟩ := ints_of h2 r2
    exact op_ltT (by omega) pins s σ H _ _ v u Q I rx ry ⟨a, b, ns, ms, rfl, rfl, .of (hi.sub _ _ ha), .of (hi.sub _ _ hb), nx.same hi (.bl _)⟩
theorem le_ok : OpR X (compareOp .LtE) (rD2 .le) := by
  intro pins s σ H x y v u Q I rx ry ⟨Z, F, d, e, r, hi, hx, hy, he, nx⟩
  cases d <;> cases e <;> simp only [op2] at he <;> try (cases he)
  obtain rfl := hx.intv
  obtain rfl := hy.intv
  exact op_le pins s σ H _ _ v u Q I rx ry ⟨_, _, rfl, rfl, nx.same hi (.bl _)⟩
theorem gt_ok : OpR X (compareOp .Gt) (rD2 .gt) := by
  intro pins s σ H x y v u Q I rx ry ⟨Z, F, d, e, r, hi, hx, hy, he, nx⟩
  cases d <;> cases e <;> simp only [op2] at he <;> try (cases he)
  obtain rfl := hx.intv
  obtain rfl := hy.intv
  exact op_gt pins s σ H _ _ v u Q I rx ry ⟨_, _, rfl, rfl, nx.same hi (.bl _)⟩
theorem ge_ok : OpR X (compareOp .GtE) (rD2 .ge) := by
  intro pins s σ H x y v u Q I rx ry ⟨Z, F, d, e, r, hi, hx, hy, he, nx⟩
  cases d <;> cases e <;> simp only [op2] at he <;> try (cases he)
  obtain rfl := hx.intv
  obtain rfl := hy.intv
  exact op_ge pins s σ H _ _ v u Q I rx ry ⟨_, _, rfl, rfl, nx.same hi (.bl _)⟩
theorem in_ok (hu : X.A.units + 65 < cLine) : OpR X (compareOp .In) (rD2 .isin) := by
  intro pins s σ H x y v u Q I rx ry ⟨Z, F, d, e, r, hi, hx, hy, he, nx⟩
  cases e with
  | list ds =>
    have he : (if shaped2 d (.list ds) = true then some (PyData.bool (ds.any fun z => PyData.eqv z d)) else none) = some r := by
      cases d <;> exact he
    split at he <;> cases he
    rename_i hs
    unfold shaped2 at hs
    rw [Bool.and_eq_true] at hs
    exact op_inD hu pins s σ H _ _ v u Q I rx ry ⟨d, ds, hx.dp hi.sub (SeqAt.canLay_of_shaped hs.1), hy.dp hi.sub (SeqAt.canLay_of_shaped hs.2), hs.1, hs.2, nx.same hi (.bl _)⟩
  | tuple ds =>
    have he : (if (flatD d && ds.all flatD) = true then some (PyData.bool (ds.any fun z => PyData.eqv z d)) else none) = some r := by
      cases d <;> exact he
    split at he <;> cases he
    rename_i hs
    rw [Bool.and_eq_true] at hs
    obtain ⟨b, ys, rfl, hb, r2⟩ := hy.tuple
    obtain ⟨q1, q2⟩ := flat_rd hx hs.1
    refine op_in_seq pins s σ H _ _ v u Q I rx ry ⟨b, ys, rfl, .inr (.of (hi.sub _ _ hb)), q2, r2.flat hs.2, ?_⟩
    rw [inV_any q1 hs.1 r2 hs.2]
    exact nx.same hi (.bl _)
  | dict kvs =>
    have he : (dGet (.dict kvs) d).map (fun o => PyData.bool o.isSome) = some r := by
      cases d <;> exact he
    cases eg : dGet (.dict kvs) d with
    | none => rw [eg] at he; cases he
    | some o =>
      rw [eg] at he
      cases he
      obtain ⟨a, o', rfl, g, k⟩ := dget_of hi.sub hy hx eg
      obtain rfl : u = Value.ref a := ry
      refine d_in (by omega) I g rx fun s' I' => ⟨.bl o'.isSome, H, I', rfl, ?_⟩
      rcases k with ⟨_, _, rfl, rfl, _⟩ | ⟨rfl, rfl⟩ <;> exact nx.same hi (.bl _)
  | _ => cases d <;> simp [op2] at he
theorem notin_ok (hu : X.A.units + 65 < cLine) : OpR X (compareOp .NotIn) (rD2 .notin) := by
  intro pins s σ H x y v u Q I rx ry ⟨Z, F, d, e, r, hi, hx, hy, he, nx⟩
  cases e with
  | list ds =>
    have he : (if shaped2 d (.list ds) = true then some (PyData.bool (!ds.any fun z => PyData.eqv z d)) else none) = some r := by
      cases d <;> exact he
    split at he <;> cases he
    rename_i hs
    unfold shaped2 at hs
    rw [Bool.and_eq_true] at hs
    exact op_notInD hu pins s σ H _ _ v u Q I rx ry ⟨d, ds, hx.dp hi.sub (SeqAt.canLay_of_shaped hs.1), hy.dp hi.sub (SeqAt.canLay_of_shaped hs.2), hs.1, hs.2, nx.same hi (.bl _)⟩
  | tuple ds =>
    have he : (if (flatD d && ds.all flatD) = true then some (PyData.bool (!ds.any fun z => PyData.eqv z d)) else none) = some r := by
      cases d <;> exact he
    split at he <;> cases he
    rename_i hs
    rw [Bool.and_eq_true] at hs
    obtain ⟨b, ys, rfl, hb, r2⟩ := hy.tuple
    obtain ⟨q1, q2⟩ := flat_rd hx hs.1
    refine op_notIn_seq pins s σ H _ _ v u Q I rx ry ⟨b, ys, rfl, .inr (.of (hi.sub _ _ hb)), q2, r2.flat hs.2, ?_⟩
    rw [inV_any q1 hs.1 r2 hs.2]
    exact nx.same hi (.bl _)
  | dict kvs =>
    have he : (dGet (.dict kvs) d).map (fun o => PyData.bool (!o.isSome)) = some r := by
      cases d <;> exact he
    cases eg : dGet (.dict kvs) d with
    | none => rw [eg] at he; cases he
    | some o =>
      rw [eg] at he
      cases he
      obtain ⟨a, o', rfl, g, k⟩ := dget_of hi.sub hy hx eg
      obtain rfl : u = Value.ref a := ry
      refine d_notIn (by omega) I g rx fun s' I' => ⟨.bl (!o'.isSome), H, I', rfl, ?_⟩
      rcases k with ⟨_, _, rfl, rfl, _⟩ | ⟨rfl, rfl⟩ <;> exact nx.same hi (.bl _)
  | _ => cases d <;> simp [op2] at he
theorem cmp_ok (hu : X.A.units + 65 < cLine) {o : Op2} {b : CmpOp} (h : opC o = some b) : OpR X (compareOp b) (rD2 o) := by
  cases o <;> simp [opC] at h <;> subst h
  · exact eq_ok (by omega)
  · exact ne_ok (by omega)
  · exact lt_ok (by omega)
  · exact le_ok
  · exact gt_ok
  · exact ge_ok
  · exact in_ok hu
  · exact notin_ok hu
/-! ### subscripts -/
def rDix : R2 := fun x y H Q => ∃ Z F d e r, HI Z F H ∧ Rdd Z F H x d ∧ Rdd Z F H y e ∧ ixS d e = some r ∧ Nx Z F H r Q
theorem atI_map {vs : List V} {ds : List PyData} {i : Int} {d : PyData} (r : RpA Z F vs ds) (h : atI ds i = some d) : ∃ v, atI vs i = some v ∧ Rp Z F v d := by
  unfold atI at h ⊢
  rw [r.length]
  cases e : ixN ds.length i with
  | none => rw [e] at h; cases h
  | some j =>
    rw [e] at h
    exact r.get h
/-- the rest of d[k] -/
theorem dict_tail {P : Program} {w : World} {A : Around} {E : Value → Shared → Prop} {s : Shared} {value slice : Expr} {o i : Value} {Q : Value → Shared → Prop} (hT : s.TypeIs o "dict") (h : wpAny (model P w) A (getItem o i) Q E s) (hs : subscripted slice false o i = operate [o, i] (getItem o i)) :
    wpAny (model P w) A (subscriptTail value slice o i) Q E s := by
  have fin : wpAny (model P w) A (subscripted slice false o i) (fun r s3 => wpAny (model P w) A (letTemporaryGo value o r >>= fun _ => pure r) Q E s3) E s := by
    rw [hs]; exact wpAny_operating (wpAny_mono h (fun r _ hq => wpAny_bind (wpAny_letTemporaryGo (wpAny_pure hq))) fun _ _ z => z)
  unfold subscriptTail; refine wpAny_bind ?_; rw [getitemInPython_of_ne hT.not_modules]; refine wpAny_bind (wpAny_specialOf hT PySem.F.slot_dict_getitem.lookup ?_)
  first | exact wpAny_pure (wpAny_bind fin) | exact wpAny_bind (wpAny_pure (wpAny_bind fin)) | exact wpAny_bind fin
theorem ix_ok (hu : X.A.units + 1 < cLine) : IxR X rDix := by
  intro value slice pins s σ H x y v u Q I rx ry ⟨Z, F, d, e, r, hi, hx, hy, he, nx⟩ hs
  by_cases hd : ∃ kvs, d = .dict kvs
  · obtain ⟨kvs, rfl⟩ := hd
    have he : (match dGet (.dict kvs) e with
      | some (some d) => some d
      | _ => none) = some r := by cases e <;> exact he
    cases eg : dGet (.dict kvs) e with
    | none => rw [eg] at he; cases he
    | some o =>
      rw [eg] at he
      cases o with
      | none => cases he
      | some d =>
        cases he
        obtain ⟨a, o', rfl, g, k⟩ := dget_of hi.sub hx hy eg
        rcases k with ⟨w, d', rfl, e2, q⟩ | ⟨_, e2⟩
        · cases e2
          obtain rfl : v = Value.ref a := rx
          exact dict_tail (dict_typeIs I g) (d_getItem hu I g ry fun w' s' I' rw' => ⟨w, H, I', rw', nx.same hi q⟩) hs
        · cases e2
  have hd' : ∀ kvs, d ≠ .dict kvs := fun kvs z => hd ⟨kvs, z⟩
  cases d <;> (try exact absurd rfl (hd' _)) <;> cases e <;> simp only [ixS] at he <;> try (cases he)
  · obtain ⟨a, xs, rfl, ha, r1⟩ := hx.list hi.sub
    obtain rfl := hy.intv
    obtain ⟨w, hw, rw'⟩ := atI_map r1 he
    exact ix_list value slice pins s σ H _ _ v u Q I rx ry ⟨a, xs, _, w, rfl, rfl, .of ha, hw, nx.same hi rw'⟩ hs
  · obtain ⟨a, xs, rfl, ha, r1⟩ := hx.tuple
    obtain rfl := hy.intv
    obtain ⟨w, hw, rw'⟩ := atI_map r1 he
    exact ix_tup value slice pins s σ H _ _ v u Q I rx ry ⟨a, xs, _, w, rfl, rfl, .of (hi.sub _ _ ha), hw, nx.same hi rw'⟩ hs
def rDsl : V → Option Int → Option Int → Hp → VK → Prop := fun x lo hi' H Q => ∃ Z F d r, HI Z F H ∧ Rdd Z F H x d ∧ slS d lo hi' = some r ∧ Nx Z F H r Q
theorem cut_rp {vs : List V} {ds : List PyData} {lo hi : Option Int} (r : RpA Z F vs ds) : RpA Z F (cutV vs lo hi) (cutD ds lo hi) := by
  unfold cutV cutD
  rw [r.length]
  exact (r.drop _).take _
theorem sl_ok : SlR X rDsl := by
  intro pins s σ H x v vl vu lo hi sl Q I rx hs pl pu ⟨Z, F, d, r, hi, hx, he, nx⟩
  cases d <;> simp only [slS] at he <;> try (cases he)
  obtain ⟨a, xs, rfl, ha, r1⟩ := hx.list hi.sub
  exact sl_list pins s σ H _ v vl vu lo _ sl Q I rx hs pl pu ⟨a, xs, rfl, .of ha, nx.lst hi (cut_rp r1)⟩
end
end
end Ev
/-! Ev5: built-in functions, methods, iterators over data -/
namespace Ev
open PySem PySem.Spec PyProof.Rows L2
abbrev RddA (Z : Zs) (F H : Hp) : List V → List PyData → Prop := Paired (fun v d => Rdd Z F H v d)
section
variable {Z : Zs} {F H : Hp} {r : PyData} {Q : VK}
theorem maxL_spec : ∀ (ns : List Int) (n : Int), maxL n ns ∈ n :: ns ∧ ∀ y, y ∈ n :: ns → y ≤ maxL n ns
  | [], n => ⟨by simp [maxL], fun y h => by simp at h; simp [maxL, h]⟩
  | x :: r, n => by
    rw [maxL]
    by_cases c : x > n
    · rw [if_pos c]
      obtain ⟨h1, h2⟩ := maxL_spec r x
      refine ⟨List.mem_cons_of_mem _ h1, fun y hy => ?_⟩
      rcases List.mem_cons.mp hy with e | hy
      · have := h2 x List.mem_cons_self; omega
      · exact h2 y hy
    · rw [if_neg c]
      obtain ⟨h1, h2⟩ := maxL_spec r n
      refine ⟨?_, fun y hy => ?_⟩
      · rcases List.mem_cons.mp h1 with e | e
        · rw [e]; exact List.mem_cons_self
        · exact List.mem_cons_of_mem _ (List.mem_cons_of_mem _ e)
      · have h0 := h2 n List.mem_cons_self
        rcases List.mem_cons.mp hy with e | hy
        · omega
        · rcases List.mem_cons.mp hy with e | hy
          · omega
          · exact h2 y (List.mem_cons_of_mem _ hy)
theorem minL_spec : ∀ (ns : List Int) (n : Int), minL n ns ∈ n :: ns ∧ ∀ y, y ∈ n :: ns → minL n ns ≤ y
  | [], n => ⟨by simp [minL], fun y h => by simp at h; simp [minL, h]⟩
  | x :: r, n => by
    rw [minL]
    by_cases c : x < n
    · rw [if_pos c]
      obtain ⟨h1, h2⟩ := minL_spec r x
      refine ⟨List.mem_cons_of_mem _ h1, fun y hy => ?_⟩
      rcases List.mem_cons.mp hy with e | hy
      · have := h2 x List.mem_cons_self; omega
      · exact h2 y hy
    · rw [if_neg c]
      obtain ⟨h1, h2⟩ := minL_spec r n
      refine ⟨?_, fun y hy => ?_⟩
      · rcases List.mem_cons.mp h1 with e | e
        · rw [e]; exact List.mem_cons_self
        · exact List.mem_cons_of_mem _ (List.mem_cons_of_mem _ e)
      · have h0 := h2 n List.mem_cons_self
        rcases List.mem_cons.mp hy with e | hy
        · omega
        · rcases List.mem_cons.mp hy with e | hy
          · omega
          · exact h2 y (List.mem_cons_of_mem _ hy)
theorem mem_insI {x y : Int} : ∀ {l : List Int}, y ∈ insI x l ↔ y = x ∨ y ∈ l
  | [] => by simp [insI]
  | z :: r => by
    rw [insI]
    split
    · simp
    · split
      · rename_i e; subst e; simp
      · simp only [List.mem_cons, mem_insI (l := r)]
        constructor
        · rintro (h | h | h)
          · exact .inr (.inl h)
          · exact .inl h
          · exact .inr (.inr h)
        · rintro (h | h | h)
          · exact .inr (.inl h)
          · exact .inl h
          · exact .inr (.inr h)
theorem insI_up {x : Int} : ∀ {l : List Int}, l.Pairwise (· < ·) → (insI x l).Pairwise (· < ·)
  | [], _ => by simp [insI]
  | z :: r, h => by
    rw [List.pairwise_cons] at h
    rw [insI]
    split
    · rename_i hx
      rw [List.pairwise_cons]
      refine ⟨fun y hy => ?_, List.pairwise_cons.mpr h⟩
      rcases List.mem_cons.mp hy with e | hy
      · rw [e]; exact hx
      · have := h.1 y hy; omega
    · split
      · exact List.pairwise_cons.mpr h
      · rw [List.pairwise_cons]
        refine ⟨fun y hy => ?_, insI_up h.2⟩
        rcases mem_insI.mp hy with e | hy
        · subst e; omega
        · exact h.1 y hy
theorem mem_sortU {y : Int} : ∀ {l : List Int}, y ∈ sortU l ↔ y ∈ l
  | [] => by simp [sortU]
  | z :: r => by
    show y ∈ insI z (sortU r) ↔ _
    rw [mem_insI, mem_sortU (l := r), List.mem_cons]
theorem sortU_up : ∀ l : List Int, (sortU l).Pairwise (· < ·)
  | [] => by simp [sortU]
  | z :: r => insI_up (sortU_up r)
theorem up_one : ∀ {l m : List Int}, l.Pairwise (· < ·) → m.Pairwise (· < ·) → (∀ y, y ∈ l ↔ y ∈ m) → l = m
  | [], [], _, _, _ => rfl
  | [], y :: m, _, _, h => absurd ((h y).mpr List.mem_cons_self) (by simp)
  | x :: l, [], _, _, h => absurd ((h x).mp List.mem_cons_self) (by simp)
  | x :: l, y :: m, hl, hm, h => by
    rw [List.pairwise_cons] at hl hm
    have e : x = y := by
      rcases List.mem_cons.mp ((h x).mp List.mem_cons_self) with e | hx
      · exact e
      · rcases List.mem_cons.mp ((h y).mpr List.mem_cons_self) with e | hy
        · exact e.symm
        · have := hl.1 y hy
          have := hm.1 x hx
          omega
    subst e
    rw [up_one hl.2 hm.2 fun z => ?_]
    have hz := h z
    simp only [List.mem_cons] at hz
    constructor
    · intro a
      rcases hz.mp (.inr a) with b | b
      · subst b; exact absurd (hl.1 _ a) (Int.lt_irrefl _)
      · exact b
    · intro a
      rcases hz.mpr (.inr a) with b | b
      · subst b; exact absurd (hm.1 _ a) (Int.lt_irrefl _)
      · exact b
def fnV : Fn → Option (Bool × String)
  | .len => some (false, "len")
  | .tuple => some (true, "tuple")
  | .list => some (true, "list")
  | .sum => some (false, "sum")
  | .max => some (false, "max")
  | .min => some (false, "min")
  | .all => some (false, "all")
  | .any => some (false, "any")
  | .abs => some (false, "abs")
  | .int => some (true, "int")
  | _ => none
def rDfn (f : Fn) : List V → Hp → VK → Prop := fun vs H Q => ∃ Z F ds r, HI Z F H ∧ RddA Z F H vs ds ∧ fnS f ds = some r ∧ Nx Z F H r Q
theorem RddA.one {vs : List V} {d : PyData} (h : RddA Z F H vs [d]) : ∃ v, vs = [v] ∧ Rdd Z F H v d := by
  cases h with
  | cons h t => cases t; exact ⟨_, rfl, h⟩
theorem RddA.two {vs : List V} {d e : PyData} (h : RddA Z F H vs [d, e]) : ∃ v w, vs = [v, w] ∧ Rdd Z F H v d ∧ Rdd Z F H w e := by
  cases h with
  | cons h t =>
    cases t with
    | cons h' t => cases t; exact ⟨_, _, rfl, h, h'⟩
/-- the lists of arguments that a function takes -/
theorem fnS_len {ds : List PyData} (h : fnS .len ds = some r) : (∃ es, ds = [.list es] ∧ r = .int es.length) ∨ (∃ es, ds = [.tuple es] ∧ r = .int es.length) ∨ (∃ kvs, ds = [.dict ((.none, .bool false) :: kvs)] ∧ r = .int kvs.length) ∨ ∃ kvs, ds = [.dict kvs] ∧ okK kvs = true ∧ r = .int kvs.length := by
  unfold fnS at h
  split at h <;> first | (cases h; done) | contradiction | (cases h; exact .inl ⟨_, rfl, rfl⟩) | (cases h; exact .inr (.inl ⟨_, rfl, rfl⟩)) | (cases h; exact .inr (.inr (.inl ⟨_, rfl, rfl⟩))) | (split at h <;> first | (cases h; done) | (cases h; exact .inr (.inr (.inr ⟨_, rfl, by assumption, rfl⟩))))
section
variable {X : Cx}
theorem fn_len : CallR X (.builtin "len") (rDfn .len) := by
  intro pins s σ H vs us Q I rv ⟨Z, F, ds, r, hi, ha, he, nx⟩
  rcases fnS_len he with ⟨es, rfl, rfl⟩ | ⟨es, rfl, rfl⟩ | ⟨kvs, rfl, rfl⟩ | ⟨kvs, rfl, ok, rfl⟩
  rotate_left 2
  · obtain ⟨v, rfl, h⟩ := ha.one
    obtain ⟨a, ht, rfl, hA, rA⟩ := h.dictT hi.sub
    exact call_len_dT pins s σ H _ us Q I rv ⟨a, ht, rfl, hA, by rw [rA.length]; exact nx.same hi (.int _)⟩
  · obtain ⟨v, rfl, h⟩ := ha.one
    obtain ⟨a, hk, rfl, hA, rA⟩ := h.dictK hi.sub ok
    obtain ⟨u, rfl, rx⟩ := vals1 rv
    obtain rfl : u = .ref a := rx
    exact d_len I (.inl hA) fun t s' I' => ⟨.int (hk.length : Nat), H, I', ⟨_, rfl⟩, by rw [rA.length]; exact nx.same hi (.int _)⟩
  · obtain ⟨v, rfl, h⟩ := ha.one
    obtain ⟨a, xs, rfl, hA, rA⟩ := h.list hi.sub
    exact call_len_seq pins s σ H _ us Q I rv ⟨a, xs, rfl, .inl (.of hA), by rw [rA.length]; exact nx.same hi (.int _)⟩
  · obtain ⟨v, rfl, h⟩ := ha.one
    obtain ⟨a, xs, rfl, hA, rA⟩ := h.tuple
    exact call_len_seq pins s σ H _ us Q I rv ⟨a, xs, rfl, .inr (.of (hi.sub _ _ hA)), by rw [rA.length]; exact nx.same hi (.int _)⟩
theorem fn_tuple : CallR X (.type "tuple") (rDfn .tuple) := by
  intro pins s σ H vs us Q I rv ⟨Z, F, ds, r, hi, ha, he, nx⟩
  have : (∃ es, ds = [.list es] ∧ r = .tuple es) ∨ (∃ es, ds = [.tuple es] ∧ r = .tuple es) := by
    unfold fnS at he
    split at he <;> first | (cases he; done) | contradiction | (cases he; exact .inl ⟨_, rfl, rfl⟩) | (cases he; exact .inr ⟨_, rfl, rfl⟩)
  rcases this with ⟨es, rfl, rfl⟩ | ⟨es, rfl, rfl⟩
  · obtain ⟨v, rfl, h⟩ := ha.one
    obtain ⟨a, xs, rfl, hA, rA⟩ := h.list hi.sub
    exact call_tuple_of pins s σ H _ us Q I rv ⟨a, xs, rfl, .inl ⟨.of hA, nx.tup hi rA⟩⟩
  · obtain ⟨v, rfl, h⟩ := ha.one
    obtain ⟨a, xs, rfl, hA, rA⟩ := h.tuple
    exact call_tuple_of pins s σ H _ us Q I rv ⟨a, xs, rfl, .inr ⟨.of (hi.sub _ _ hA), nx.same hi (.tup hA rA)⟩⟩
theorem fn_list : CallR X (.type "list") (rDfn .list) := by
  intro pins s σ H vs us Q I rv ⟨Z, F, ds, r, hi, ha, he, nx⟩
  have : (∃ es, ds = [.list es] ∧ r = .list es) ∨ (∃ es, ds = [.tuple es] ∧ r = .list es) := by
    unfold fnS at he
    split at he <;> first | (cases he; done) | contradiction | (cases he; exact .inl ⟨_, rfl, rfl⟩) | (cases he; exact .inr ⟨_, rfl, rfl⟩)
  rcases this with ⟨es, rfl, rfl⟩ | ⟨es, rfl, rfl⟩
  · obtain ⟨v, rfl, h⟩ := ha.one
    obtain ⟨a, xs, rfl, hA, rA⟩ := h.list hi.sub
    exact call_list_of pins s σ H _ us Q I rv ⟨a, xs, rfl, .inl (.of hA), nx.lst hi rA⟩
  · obtain ⟨v, rfl, h⟩ := ha.one
    obtain ⟨a, xs, rfl, hA, rA⟩ := h.tuple
    exact call_list_of pins s σ H _ us Q I rv ⟨a, xs, rfl, .inr (.of (hi.sub _ _ hA)), nx.lst hi rA⟩
theorem fn_sum (hc : X.calm = true) : CallR X (.builtin "sum") (rDfn .sum) := by
  intro pins s σ H vs us Q I rv ⟨Z, F, ds, r, hi, ha, he, nx⟩
  have : ∃ es ns, ds = [.list es] ∧ intsOf es = some ns ∧ r = .int ns.sum := by
    unfold fnS at he
    split at he <;> first | (cases he; done) | contradiction | (obtain ⟨ns, h1, h2⟩ := Option.map_eq_some_iff.mp he; exact ⟨_, ns, rfl, h1, h2.symm⟩)
  obtain ⟨es, ns, rfl, hn, rfl⟩ := this
  obtain ⟨v, rfl, h⟩ := ha.one
  obtain ⟨a, xs, rfl, hA, rA⟩ := h.list hi.sub
  obtain ⟨rfl, rfl⟩ := ints_of hn rA
  exact cr_sum hc pins s σ H _ us Q I rv ⟨a, ns, rfl, .of hA, nx.same hi (.int _)⟩
theorem fn_max (hc : X.calm = true) : CallR X (.builtin "max") (rDfn .max) := by
  intro pins s σ H vs us Q I rv ⟨Z, F, ds, r, hi, ha, he, nx⟩
  have : (∃ es n ns, ds = [.list es] ∧ intsOf es = some (n :: ns) ∧ r = .int (maxL n ns)) ∨ (∃ i j, ds = [.int i, .int j] ∧ r = .int (if j > i then j else i)) := by
    unfold fnS at he
    split at he <;> first | (cases he; done) | contradiction | (split at he <;> first | (cases he; done) | (cases he; exact .inl ⟨_, _, _, rfl, by assumption, rfl⟩)) | (cases he; exact .inr ⟨_, _, rfl, rfl⟩)
  rcases this with ⟨es, n, ns, rfl, hn, rfl⟩ | ⟨i, j, rfl, rfl⟩
  · obtain ⟨v, rfl, h⟩ := ha.one
    obtain ⟨a, xs, rfl, hA, rA⟩ := h.list hi.sub
    obtain ⟨rfl, rfl⟩ := ints_of hn rA
    refine cr_max hc pins s σ H _ us Q I rv ⟨a, n :: ns, rfl, .of hA, by simp, fun m hm h => ?_⟩
    obtain ⟨h1, h2⟩ := maxL_spec ns n
    have e : m = maxL n ns := by
      have := h _ h1
      have := h2 m hm
      omega
    rw [e]
    exact nx.same hi (.int _)
  · obtain ⟨v, w, rfl, h1, h2⟩ := ha.two
    obtain rfl := h1.intv
    obtain rfl := h2.intv
    exact call_max2 hc pins s σ H _ us Q I rv ⟨i, j, rfl, nx.same hi (.int _)⟩
theorem fn_min (hc : X.calm = true) : CallR X (.builtin "min") (rDfn .min) := by
  intro pins s σ H vs us Q I rv ⟨Z, F, ds, r, hi, ha, he, nx⟩
  have : (∃ es n ns, ds = [.list es] ∧ intsOf es = some (n :: ns) ∧ r = .int (minL n ns)) ∨ (∃ i j, ds = [.int i, .int j] ∧ r = .int (if j < i then j else i)) := by
    unfold fnS at he
    split at he <;> first | (cases he; done) | contradiction | (split at he <;> first | (cases he; done) | (cases he; exact .inl ⟨_, _, _, rfl, by assumption, rfl⟩)) | (cases he; exact .inr ⟨_, _, rfl, rfl⟩)
  rcases this with ⟨es, n, ns, rfl, hn, rfl⟩ | ⟨i, j, rfl, rfl⟩
  · obtain ⟨v, rfl, h⟩ := ha.one
    obtain ⟨a, xs, rfl, hA, rA⟩ := h.list hi.sub
    obtain ⟨rfl, rfl⟩ := ints_of hn rA
    refine cr_min hc pins s σ H _ us Q I rv ⟨a, n :: ns, rfl, .of hA, by simp, fun m hm h => ?_⟩
    obtain ⟨h1, h2⟩ := minL_spec ns n
    have e : m = minL n ns := by
      have := h _ h1
      have := h2 m hm
      omega
    rw [e]
    exact nx.same hi (.int _)
  · obtain ⟨v, w, rfl, h1, h2⟩ := ha.two
    obtain rfl := h1.intv
    obtain rfl := h2.intv
    exact call_min2 hc pins s σ H _ us Q I rv ⟨i, j, rfl, nx.same hi (.int _)⟩
theorem fn_all (hc : X.calm = true) : CallR X (.builtin "all") (rDfn .all) := by
  intro pins s σ H vs us Q I rv ⟨Z, F, ds, r, hi, ha, he, nx⟩
  have : ∃ es ns, ds = [.list es] ∧ blsOf es = some ns ∧ r = .bool (ns.all id) := by
    unfold fnS at he
    split at he <;> first | (cases he; done) | contradiction | (obtain ⟨ns, h1, h2⟩ := Option.map_eq_some_iff.mp he; exact ⟨_, ns, rfl, h1, h2.symm⟩)
  obtain ⟨es, ns, rfl, hn, rfl⟩ := this
  obtain ⟨v, rfl, h⟩ := ha.one
  obtain ⟨a, xs, rfl, hA, rA⟩ := h.list hi.sub
  obtain ⟨rfl, rfl⟩ := bls_of hn rA
  exact cr_all hc pins s σ H _ us Q I rv ⟨a, ns, rfl, .of hA, nx.same hi (.bl _)⟩
theorem fn_any (hc : X.calm = true) : CallR X (.builtin "any") (rDfn .any) := by
  intro pins s σ H vs us Q I rv ⟨Z, F, ds, r, hi, ha, he, nx⟩
  have : ∃ es ns, ds = [.list es] ∧ blsOf es = some ns ∧ r = .bool (ns.any id) := by
    unfold fnS at he
    split at he <;> first | (cases he; done) | contradiction | (obtain ⟨ns, h1, h2⟩ := Option.map_eq_some_iff.mp he; exact ⟨_, ns, rfl, h1, h2.symm⟩)
  obtain ⟨es, ns, rfl, hn, rfl⟩ := this
  obtain ⟨v, rfl, h⟩ := ha.one
  obtain ⟨a, xs, rfl, hA, rA⟩ := h.list hi.sub
  obtain ⟨rfl, rfl⟩ := bls_of hn rA
  exact cr_any hc pins s σ H _ us Q I rv ⟨a, ns, rfl, .of hA, nx.same hi (.bl _)⟩
theorem fn_abs : CallR X (.builtin "abs") (rDfn .abs) := by
  intro pins s σ H vs us Q I rv ⟨Z, F, ds, r, hi, ha, he, nx⟩
  have : ∃ i, ds = [.int i] ∧ r = .int (if i < 0 then -i else i) := by
    unfold fnS at he
    split at he <;> first | (cases he; done) | contradiction | (cases he; exact ⟨_, rfl, rfl⟩)
  obtain ⟨i, rfl, rfl⟩ := this
  obtain ⟨v, rfl, h⟩ := ha.one
  obtain rfl := h.intv
  exact call_abs pins s σ H _ us Q I rv ⟨i, rfl, nx.same hi (.int _)⟩
theorem fn_int : CallR X (.type "int") (rDfn .int) := by
  intro pins s σ H vs us Q I rv ⟨Z, F, ds, r, hi, ha, he, nx⟩
  have : (∃ i, ds = [.int i] ∧ r = .int i) ∨ (∃ b, ds = [.bool b] ∧ r = .int (if b then 1 else 0)) := by
    unfold fnS at he
    split at he <;> first | (cases he; done) | contradiction | (cases he; exact .inl ⟨_, rfl, rfl⟩) | (cases he; exact .inr ⟨_, rfl, rfl⟩)
  rcases this with ⟨i, rfl, rfl⟩ | ⟨b, rfl, rfl⟩
  · obtain ⟨v, rfl, h⟩ := ha.one
    obtain rfl := h.intv
    exact call_int1 pins s σ H _ us Q I rv (.inl ⟨i, rfl, nx.same hi (.int _)⟩)
  · obtain ⟨v, rfl, h⟩ := ha.one
    obtain rfl := h.blv
    exact call_int1 pins s σ H _ us Q I rv (.inr ⟨b, rfl, nx.same hi (.int _)⟩)
theorem fn_ok (hc : X.calm = true) {f : Fn} {ty : Bool} {n : String} (h : fnV f = some (ty, n)) : CallR X (if ty then .type n else .builtin n) (rDfn f) := by
  cases f <;> simp [fnV] at h <;> obtain ⟨rfl, rfl⟩ := h
  · exact fn_len
  · exact fn_tuple
  · exact fn_list
  · exact fn_sum hc
  · exact fn_max hc
  · exact fn_min hc
  · exact fn_all hc
  · exact fn_any hc
  · exact fn_abs
  · exact fn_int
/-- set(xs), xs a list of ints -/
def rSetL (w : World) : List V → Hp → VK → Prop := fun vs H Q => ∃ (a : Addr) (ns : List Int), vs = [.ref a] ∧ H a = some (.lst (ns.map V.int)) ∧ ns.length < 64 ∧
  ∀ p c, H p = none → c ≤ ns.length → Q (.ref p) (upd H p (SetO w p (fun j => decide (j ∈ ns)) c))
theorem call_setL (hc : X.calm = true) : CallR X (.type "set") (rSetL X.w) := by
  intro pins s σ H vs us Q I rv ⟨a, ns, e, ha, hn, q⟩
  subst e
  rw [Vals.ref1 rv]
  obtain ⟨z, its, n, r, hl, ob⟩ := I.lstM ha
  refine set_of_ints (P := X.prog) (w := X.w) ns (I.ok.hd hc) ⟨_, ob, rfl, n, rfl⟩ (by simpa using r.ints) (Nat.lt_of_le_of_lt (by omega : ns.length + 1 ≤ 64) (by decide)) fun h' tk c hR hcn hk => ?_
  exact ⟨.ref _, _, I.laid hk (Nat.le_refl _) (setO_new hR), rfl, q _ c (I.hok.fresh (Nat.le_refl _)) hcn⟩
/-- sorted(set(xs)) -/
def tSortSet (w : World) (ta : TE) : TE := fun σ H Q => ta σ H fun x H1 => rSetL w [x] H1 fun y H2 => rSortedSet w [y] H2 Q
theorem pe_sortset {e : Expr} {te : TE} {p1 p2 q1 q2 : Pos} (hc : X.calm = true) (g1 : Gl X "sorted") (m1 : X.mg "sorted" = none) (g2 : Gl X "set") (m2 : X.mg "set" = none) (he : PE X e te) (hs : starEach [e] X.env = (false, eval e X.env) :: starEach [] X.env) :
    PE X (.Call (.Name "sorted" p1) [.Call (.Name "set" p2) [e] [] q2] [] q1) (tSortSet X.w te) := by
  have h1 := pe_callB (p := p1) (pos := q1) (cr_sortedSet hc) g1 m1 (by decide +kernel) (pa_cons (pe_callTy (p := p2) (pos := q2) (call_setL hc) g2 m2 (by decide +kernel) (pa_cons he pa_nil hs) (he := hs)) pa_nil)
  exact ⟨fun pins s σ H Q I h => h1.run pins s σ H Q I h⟩
theorem sort_nx {Z : Zs} {F H : Hp} {Q : VK} {v : V} {es : List PyData} {ns : List Int} (w : World) (hi : HI Z F H) (h : Rdd Z F H v (.list es)) (hn : intsOf es = some ns) (h64 : ns.length < 64) (nx : Nx Z F H (.list ((sortU ns).map .int)) Q) :
    rSetL w [v] H fun y H2 => rSortedSet w [y] H2 Q := by
  obtain ⟨a, xs, rfl, hA, rA⟩ := h.list hi.sub
  obtain ⟨rfl, rfl⟩ := ints_of hn rA
  refine ⟨a, ns, rfl, hA, h64, fun p c hp hc => ⟨p, _, c, rfl, upd_same, by omega, fun ms q up mem len hq => ?_⟩⟩
  have e : ms = sortU ns := up_one up (sortU_up ns) fun y => by rw [mem, mem_sortU]; simp
  subst e
  have g1 := hi.lay (o := SetO w p (fun j => decide (j ∈ ns)) c) hp
  have g2 := g1.hi.layS (o := .lst ((sortU ns).map V.int)) hq
  exact nx _ _ _ (g1.trans g2) (.lst upd_same (RpA.of_ints _ _ _))
/-! ### methods -/
def rDmt (m : Mt) : V → List V → Hp → VK → Prop := fun x vs H Q => ∃ Z F d ds r, HI Z F H ∧ Rdd Z F H x d ∧ RddA Z F H vs ds ∧ mtS m d ds = some r ∧ Nx Z F H r Q
theorem mt_index_ok (hu : X.A.units + 65 < cLine) : MtR X "list.index" (rDmt .index) := by
  intro pins s σ H x vs v us Q I rx rv ⟨Z, F, d, ds, r, hi, hx, ha, he, nx⟩
  have : ∃ es e j, d = .list es ∧ ds = [e] ∧ SeqAt.shaped (.list es) = true ∧ SeqAt.shaped e = true ∧ es.findIdx? (fun z => PyData.eqv z e) = some j ∧ r = .int (j : Nat) := by
    unfold mtS at he
    split at he
    · split at he
      · rename_i hs
        rw [Bool.and_eq_true] at hs
        cases q : (List.findIdx? (fun z => PyData.eqv z _) _) with
        | none => rw [q] at he; cases he
        | some j => rw [q] at he; cases he; exact ⟨_, _, j, rfl, rfl, hs.1, hs.2, q, rfl⟩
      · cases he
    all_goals first | contradiction | (cases he; done)
  obtain ⟨es, e, j, rfl, rfl, s1, s2, hj, rfl⟩ := this
  obtain ⟨y, rfl, hy⟩ := ha.one
  have dl := hx.dp (K := X.K) hi.sub (SeqAt.canLay_of_shaped s1)
  obtain ⟨a, xs, rfl, hA, rA⟩ := hx.list hi.sub
  rw [List.findIdx?_eq_some_iff_getElem] at hj
  obtain ⟨hlt, h1, h2⟩ := hj
  refine mt_indexD hu pins s σ H _ _ v us Q I rx rv ⟨a, y, e, es, j, es[j], rfl, rfl, dl, hy.dp hi.sub (SeqAt.canLay_of_shaped s2), s1, s2, List.getElem?_eq_getElem hlt, h1, fun m z' hm hz => ?_, nx.same hi (.int _)⟩
  have hml : m < es.length := by omega
  rw [List.getElem?_eq_getElem hml] at hz
  cases hz
  simpa using h2 m hm
end
end
end Ev
/-! Ev6: the judgements' readings by the code's meaning; each expression by itself -/
namespace Ev
open PySem PySem.Spec PyProof.Rows L2
def frC : C → Bool
  | .lst _ => true
  | .comp .. => true
  | .dnew _ => true
  | _ => false
def shC : C → Bool
  | .own _ => false
  | _ => true
def shCs : Cs → Bool
  | .nil => true
  | .cons c r => shC c && shCs r
/-- what is known of an expression's value from its evaluation (from H0 on) -/
def Lt (c : C) (Z : Zs) (H0 : Hp) (M : Ms) (F H : Hp) (σ : L2.St) (v : V) (d : PyData) : Prop := match c with
  | .own (.sl i) => σ[i]? = some (some v)
  | .own (.fl _ _) => False
  | c => if frC c = true then RdN Z H0 M F H v d else Rp Z F v d
def LtA : Cs → Zs → Hp → Ms → Hp → Hp → L2.St → List V → List PyData → Prop
  | .nil, _, _, _, _, _, _, [], [] => True
  | .cons c r, Z, H0, M, F, H, σ, v :: vs, d :: ds => Lt c Z H0 M F H σ v d ∧ LtA r Z H0 M F H σ vs ds
  | _, _, _, _, _, _, _, _, _ => False
section
variable {Z : Zs} {F F1 F' H H0 H1 H' : Hp} {M M1 M' : Ms} {σ : L2.St} {ε : Env} {fp fp' : Nat → List Addr} {v : V} {d : PyData}
theorem Lt.cases {c : C} (h : Lt c Z H0 M F H σ v d) : (∃ i, c = .own (.sl i) ∧ σ[i]? = some (some v)) ∨ (shC c = true ∧ frC c = true ∧ RdN Z H0 M F H v d) ∨ (shC c = true ∧ frC c = false ∧ Rp Z F v d) := by
  unfold Lt at h
  split at h
  · exact .inl ⟨_, rfl, h⟩
  · exact h.elim
  · rename_i h1 h2
    have hs : shC c = true := by
      cases c <;> first | rfl | skip
      rename_i p
      cases p
      · exact absurd rfl (h1 _)
      · exact absurd rfl (h2 _ _)
    split at h
    · rename_i hf; exact .inr (.inl ⟨hs, hf, h⟩)
    · rename_i hf; exact .inr (.inr ⟨hs, by simpa using hf, h⟩)
theorem Lt.of_rp {c : C} (hs : shC c = true) (hf : frC c = false) (h : Rp Z F v d) : Lt c Z H0 M F H σ v d := by
  unfold Lt
  split
  · cases hs
  · cases hs
  · rw [if_neg (by rw [hf]; exact Bool.false_ne_true)]; exact h
theorem Lt.of_new {c : C} (hs : shC c = true) (hf : frC c = true) (h : RdN Z H0 M F H v d) : Lt c Z H0 M F H σ v d := by
  unfold Lt
  split
  · cases hs
  · cases hs
  · rw [if_pos hf]; exact h
theorem Lt.gr {c : C} (h : Lt c Z H0 M F H σ v d) (g : Gr Z M F H M' F' H') : Lt c Z H0 M' F' H' σ v d := by
  rcases h.cases with ⟨i, rfl, e⟩ | ⟨hs, hf, h⟩ | ⟨hs, hf, h⟩
  · exact e
  · exact .of_new hs hf (g.rdn h)
  · exact .of_rp hs hf (g.rp h)
theorem Lt.base {c : C} (h : Lt c Z H1 M F H σ v d) (k : ∀ b, H1 b = none → H0 b = none) : Lt c Z H0 M F H σ v d := by
  rcases h.cases with ⟨i, rfl, e⟩ | ⟨hs, hf, h⟩ | ⟨hs, hf, h⟩
  · exact e
  · exact .of_new hs hf (h.base k)
  · exact .of_rp hs hf h
theorem StR.at_own {i : Nat} (st : StR Z F H σ ε fp) (h : (Pl.sl i).get ε = some (.ow d)) : ∃ a o, σ[i]? = some (some (.ref a)) ∧ F a = none ∧ a ∉ Z.dom ∧ H a = some o ∧ Shp Z F o d ∧ fp i = [a] ∧ i < ε.length := by
  simp only [Pl.get] at h
  split at h
  · cases h
  · rename_i x e
    cases h
    obtain ⟨a, o, e1, e2, e3, e4, e5, e6⟩ := st.sl i _ e
    exact ⟨a, o, e2, e3, e4, e5, e6, e1, (List.getElem?_eq_some_iff.mp e).1⟩
  · cases h
theorem StR.at_sh {i : Nat} (st : StR Z F H σ ε fp) (h : (Pl.sl i).get ε = some (.sh d)) : ∃ w, σ[i]? = some (some w) ∧ Rp Z F w d := by
  simp only [Pl.get] at h
  split at h
  · rename_i x e
    cases h
    exact (st.sl i _ e).2
  · cases h
  · cases h
theorem Lt.late {c : C} (h : Lt c Z H0 M F H σ v d) (st : StR Z F H σ ε fp) (ok : okO c d ε) : Rdd Z F H v d := by
  rcases h.cases with ⟨i, rfl, e⟩ | ⟨hs, hf, h⟩ | ⟨hs, hf, h⟩
  · obtain ⟨a, o, e1, e2, e3, e4, e5, _⟩ := st.at_own ok
    rw [e] at e1
    cases e1
    exact .inr ⟨a, o, rfl, e2, e3, e4, e5⟩
  · exact .inr h.old
  · exact .inl h
theorem LtA.gr : ∀ {cs : Cs} {vs : List V} {ds : List PyData}, LtA cs Z H0 M F H σ vs ds → Gr Z M F H M' F' H' → LtA cs Z H0 M' F' H' σ vs ds
  | .nil, [], [], _, _ => trivial
  | .cons c r, v :: vs, d :: ds, h, g => ⟨h.1.gr g, LtA.gr h.2 g⟩
  | .nil, _ :: _, _, h, _ => h.elim
  | .nil, [], _ :: _, h, _ => h.elim
  | .cons _ _, [], _, h, _ => h.elim
  | .cons _ _, _ :: _, [], h, _ => h.elim
theorem LtA.base (k : ∀ b, H1 b = none → H0 b = none) : ∀ {cs : Cs} {vs : List V} {ds : List PyData}, LtA cs Z H1 M F H σ vs ds → LtA cs Z H0 M F H σ vs ds
  | .nil, [], [], _ => trivial
  | .cons c r, v :: vs, d :: ds, h => ⟨h.1.base k, LtA.base k h.2⟩
  | .nil, _ :: _, _, h => h.elim
  | .nil, [], _ :: _, h => h.elim
  | .cons _ _, [], _, h => h.elim
  | .cons _ _, _ :: _, [], h => h.elim
theorem LtA.late (st : StR Z F H σ ε fp) : ∀ {cs : Cs} {vs : List V} {ds : List PyData}, LtA cs Z H0 M F H σ vs ds → okOs cs ds ε → RddA Z F H vs ds
  | .nil, [], [], _, _ => .nil
  | .cons c r, v :: vs, d :: ds, h, ok => .cons (h.1.late st ok.1) (LtA.late st h.2 ok.2)
  | .nil, _ :: _, _, h, _ => h.elim
  | .nil, [], _ :: _, h, _ => h.elim
  | .cons _ _, [], _, h, _ => h.elim
  | .cons _ _, _ :: _, [], h, _ => h.elim
/-- what can be shared from now on -/
def Fz (Z : Zs) (H0 : Hp) (M : Ms) (F H : Hp) (v : V) (d : PyData) : Prop := Rp Z F v d ∨ ∃ a o, v = .ref a ∧ H0 a = none ∧ ¬ M a ∧ a ∉ Z.dom ∧ H a = some o ∧ Shp Z F o d
theorem Lt.fz {c : C} (h : Lt c Z H0 M F H σ v d) (hs : shC c = true) : Fz Z H0 M F H v d := by
  rcases h.cases with ⟨i, rfl, e⟩ | ⟨_, hf, a, o, e, h0, m, f, n, k, s⟩ | ⟨_, hf, h⟩
  · cases hs
  · exact .inr ⟨a, o, e, h0, m, n, k, s⟩
  · exact .inl h
theorem Fz.mono (h : Fz Z H0 M F H v d) (k : ∀ a o, F a = some o → F' a = some o) : Fz Z H0 M F' H v d := by
  rcases h with h | ⟨a, o, e, h0, m, n, q, s⟩
  · exact .inl (h.mono k)
  · exact .inr ⟨a, o, e, h0, m, n, q, s.mono k⟩
theorem Fz.go {Mb : Ms} {Fb : Hp} (h : Fz Z H0 (Mf fp) F H v d) (g : Gr Z Mb Fb H0 (Mf fp) F H) (st : StR Z F H σ ε fp) :
    ∃ F2, Gr Z Mb Fb H0 (Mf fp) F2 H ∧ StR Z F2 H σ ε fp ∧ Rp Z F2 v d ∧ ∀ a o, F a = some o → F2 a = some o := by
  rcases h with h | ⟨a, o, rfl, h0, m, n, q, s⟩
  · exact ⟨F, g, st, h, fun _ _ e => e⟩
  · obtain ⟨hi, k⟩ := freeze1 g.hi n q
    refine ⟨upd F a o, ⟨g.keep, g.there, fun b u e => k b u (g.fro b u e), fun b u e => ?_, g.own, hi⟩, st.grow k fun b hb => ⟨?_, rfl⟩, (s.mono k).rp upd_same, k⟩
    · by_cases hb : b = a
      · subst hb; exact .inr (.inl h0)
      · rw [upd_ne hb] at e; exact g.new b u e
    · rw [upd_ne (fun (z : b = a) => m (z ▸ hb))]
      obtain ⟨_, f, _⟩ := st.ownM hb
      exact f
theorem LtA.fz : ∀ {cs : Cs} {vs : List V} {ds : List PyData}, LtA cs Z H0 M F H σ vs ds → shCs cs = true → Paired (Fz Z H0 M F H) vs ds
  | .nil, [], [], _, _ => .nil
  | .cons c r, v :: vs, d :: ds, h, hs => by
    rw [shCs, Bool.and_eq_true] at hs
    exact .cons (h.1.fz hs.1) (LtA.fz h.2 hs.2)
  | .nil, _ :: _, _, h, _ => h.elim
  | .nil, [], _ :: _, h, _ => h.elim
  | .cons _ _, [], _, h, _ => h.elim
  | .cons _ _, _ :: _, [], h, _ => h.elim
theorem FzA.go {Mb : Ms} {Fb : Hp} : ∀ {vs : List V} {ds : List PyData} {F : Hp}, Paired (Fz Z H0 (Mf fp) F H) vs ds → Gr Z Mb Fb H0 (Mf fp) F H → StR Z F H σ ε fp →
    ∃ F2, Gr Z Mb Fb H0 (Mf fp) F2 H ∧ StR Z F2 H σ ε fp ∧ RpA Z F2 vs ds ∧ ∀ a o, F a = some o → F2 a = some o
  | _, _, F, .nil, g, st => ⟨F, g, st, .nil, fun _ _ e => e⟩
  | _, _, F, .cons h t, g, st => by
    obtain ⟨F2, g2, st2, r2, k2⟩ := h.go g st
    obtain ⟨F3, g3, st3, r3, k3⟩ := FzA.go (Paired.mapP t fun _ _ z => z.mono k2) g2 st2
    exact ⟨F3, g3, st3, .cons (r2.mono k3) r3, fun a o e => k3 a o (k2 a o e)⟩
end
/-! ### readings -/
def EQ (Z : Zs) (F H : Hp) (fp : Nat → List Addr) (σ : L2.St) (c : C) (Q : VK) (d : PyData) (ε' : Env) : Prop :=
  ∀ v F' H' fp', Gr Z (Mf fp) F H (Mf fp') F' H' → StR Z F' H' σ ε' fp' → Lt c Z H (Mf fp') F' H' σ v d → Rdd Z F' H' v d → Q v H'
def EQs (Z : Zs) (F H : Hp) (fp : Nat → List Addr) (σ : L2.St) (cs : Cs) (Q : List V → Hp → Prop) (ds : List PyData) (ε' : Env) : Prop :=
  ∀ vs F' H' fp', Gr Z (Mf fp) F H (Mf fp') F' H' → StR Z F' H' σ ε' fp' → LtA cs Z H (Mf fp') F' H' σ vs ds → Q vs H'
def EQT (Z : Zs) (F H : Hp) (fp : Nat → List Addr) (σ : L2.St) (Q : Bool → Hp → Prop) (b : Bool) (ε' : Env) : Prop :=
  ∀ F' H' fp', Gr Z (Mf fp) F H (Mf fp') F' H' → StR Z F' H' σ ε' fp' → Q b H'
def EQO (Z : Zs) (F H : Hp) (fp : Nat → List Addr) (σ : L2.St) (Q : Option Int → Hp → Prop) (b : Option Int) (ε' : Env) : Prop :=
  ∀ F' H' fp', Gr Z (Mf fp) F H (Mf fp') F' H' → StR Z F' H' σ ε' fp' → Q b H'
def tCe (Φ : Tab) (c : C) : TE := fun σ H Q => ∃ Z F ε fp, HI Z F H ∧ StR Z F H σ ε fp ∧ ev Φ c ε (EQ Z F H fp σ c Q)
def tCs (Φ : Tab) (cs : Cs) : TA := fun σ H Q => ∃ Z F ε fp, HI Z F H ∧ StR Z F H σ ε fp ∧ evs Φ cs ε (EQs Z F H fp σ cs Q)
def tTe (Φ : Tab) (t : T) : TT := fun σ H Q => ∃ Z F ε fp, HI Z F H ∧ StR Z F H σ ε fp ∧ evT Φ t ε (EQT Z F H fp σ Q)
def tOe (Φ : Tab) (o : O) : TO := fun σ H Q => ∃ Z F ε fp, HI Z F H ∧ StR Z F H σ ε fp ∧ evO Φ o ε (EQO Z F H fp σ Q)
theorem _root_.L2.PE.imp {X : Cx} {e : Expr} {t t' : TE} (h : PE X e t) (k : ∀ σ H Q, t' σ H Q → t σ H Q) : PE X e t' := ⟨fun pins s σ H Q I q => h.run pins s σ H Q I (k σ H Q q)⟩
theorem _root_.L2.PT.imp {X : Cx} {e : Expr} {t t' : TT} (h : PT X e t) (k : ∀ σ H Q, t' σ H Q → t σ H Q) : PT X e t' := ⟨fun pins s σ H Q I q => h.run pins s σ H Q I (k σ H Q q)⟩
theorem _root_.L2.PW.imp {X : Cx} {e : Expr} {t t' : TT} (h : PW X e t) (k : ∀ σ H Q, t' σ H Q → t σ H Q) : PW X e t' := ⟨fun wh pins s σ H Q I q => h.run wh pins s σ H Q I (k σ H Q q)⟩
theorem _root_.L2.PA.imp {X : Cx} {e : List Expr} {t t' : TA} (h : PA X e t) (k : ∀ σ H Q, t' σ H Q → t σ H Q) : PA X e t' := ⟨fun pos pins s σ H Q I q => h.run pos pins s σ H Q I (k σ H Q q)⟩
theorem _root_.L2.PO.imp {X : Cx} {e : Option Expr} {t t' : TO} (h : PO X e t) (k : ∀ σ H Q, t' σ H Q → t σ H Q) : PO X e t' := ⟨fun pins s σ H Q I q => h.run pins s σ H Q I (k σ H Q q)⟩
section
variable {Z : Zs} {F H : Hp} {σ : L2.St} {ε : Env} {fp : Nat → List Addr} {c : C} {Q : VK} {d : PyData}
/-- a value that is shared, at once -/
theorem EQ.sh (h : EQ Z F H fp σ c Q d ε) (hi : HI Z F H) (st : StR Z F H σ ε fp) (hs : shC c = true) (hf : frC c = false) {v : V} (r : Rp Z F v d) : Q v H :=
  h v F H fp (Gr.refl hi) st (.of_rp hs hf r) (.inl r)
/-- from an operation's wish to the reading's -/
theorem EQ.nx {F1 H1 : Hp} {fp1 : Nat → List Addr} {ε1 : Env} (h : EQ Z F H fp σ c Q d ε1) (g : Gr Z (Mf fp) F H (Mf fp1) F1 H1) (st : StR Z F1 H1 σ ε1 fp1) (hs : shC c = true) (hf : frC c = false) : Nx Z F1 H1 d Q := fun v F' H' g' r =>
  h v F' H' fp1 (g.trans g'.lift) (st.gr0 g') (.of_rp hs hf r) (.inl r)
end
theorem op2_bl {o : Op2} {p : CmpOp} (ho : opC o = some p) {d e r : PyData} (h : op2 o d e = some r) : ∃ k, r = .bool k := by
  cases o <;> simp only [opC] at ho <;> first | (cases ho; done) | skip
  all_goals
    unfold op2 at h
    split at h <;> first | contradiction | (cases h; exact ⟨_, rfl⟩) | (cases h; done) | (obtain ⟨_, _, rfl⟩ := Option.map_eq_some_iff.mp h; exact ⟨_, rfl⟩) | (split at h <;> first | (cases h; exact ⟨_, rfl⟩) | (cases h; done))
theorem isN_dec {Z : Zs} {F H : Hp} {v : V} {d : PyData} (r : Rdd Z F H v d) : decide (v = .non) = isNoneD d := by
  have h := r.ne_non
  cases d <;> simp [isNoneD] at h ⊢ <;> exact h
variable {Φ : Tab} (hΦ : Φ.Mono)
section
variable {X : Cx} {x y z : Expr} {a b c : C} {pos : Pos}
theorem ce_rd {i : Nat} {n : Str} (hN : X.N[i]? = some n) (hv : Vis X.env.scope n) (h1 : (n == ("__debug__" : Str)) = false) (h2 : (n == ("__classdict__" : Str)) = false) : PE X (.Name n pos) (tCe Φ (.rd (.sl i))) :=
  (pe_var hN hv h1 h2).imp fun σ H Q ⟨Z, F, ε, fp, hi, st, h⟩ => by
    simp only [ev] at h
    split at h
    · rename_i d e
      obtain ⟨w, e1, r⟩ := st.at_sh e
      exact ⟨w, e1, h.sh hi st rfl rfl r⟩
    · exact h.elim
theorem ce_own {i : Nat} {n : Str} (hN : X.N[i]? = some n) (hv : Vis X.env.scope n) (h1 : (n == ("__debug__" : Str)) = false) (h2 : (n == ("__classdict__" : Str)) = false) : PE X (.Name n pos) (tCe Φ (.own (.sl i))) :=
  (pe_var hN hv h1 h2).imp fun σ H Q ⟨Z, F, ε, fp, hi, st, h⟩ => by
    simp only [ev] at h
    split at h
    · rename_i d e
      obtain ⟨w, o, e1, e2, e3, e4, e5, _⟩ := st.at_own e
      exact ⟨_, e1, h _ F H fp (Gr.refl hi) st e1 (.inr ⟨w, o, rfl, e2, e3, e4, e5⟩)⟩
    · exact h.elim
theorem ce_int {n : Int} {k : Nat} : PE X (.Constant (.int n) k pos) (tCe Φ (.int n)) :=
  pe_int.imp fun σ H Q ⟨Z, F, ε, fp, hi, st, h⟩ => by simp only [ev] at h; exact h.sh hi st rfl rfl (.int n)
theorem ce_bl {n : Bool} {k : Nat} : PE X (.Constant (.bool n) k pos) (tCe Φ (.bl n)) :=
  pe_bl.imp fun σ H Q ⟨Z, F, ε, fp, hi, st, h⟩ => by simp only [ev] at h; exact h.sh hi st rfl rfl (.bl n)
theorem ce_non {k : Nat} : PE X (.Constant .none k pos) (tCe Φ .non) :=
  pe_non.imp fun σ H Q ⟨Z, F, ε, fp, hi, st, h⟩ => by simp only [ev] at h; exact h.sh hi st rfl rfl .non
theorem ce_str {n : Str} {k : Nat} : PE X (.Constant (.str n) k pos) (tCe Φ (.str n)) :=
  pe_str.imp fun σ H Q ⟨Z, F, ε, fp, hi, st, h⟩ => by simp only [ev] at h; exact h.sh hi st rfl rfl (.str n)
include hΦ
theorem op_core {o : Op2} {σ : L2.St} {H : Hp} {Q : VK} (h : tCe Φ (.op o a b) σ H Q) : tOp (rD2 o) (tCe Φ a) (tCe Φ b) σ H Q := by
  obtain ⟨Z, F, ε, fp, hi, st, h⟩ := h
  simp only [ev] at h
  refine ⟨Z, F, ε, fp, hi, st, ev_mono hΦ a ε (fun d ε1 h v F1 H1 fp1 g1 st1 l1 _ => ?_) h⟩
  refine ⟨Z, F1, ε1, fp1, g1.hi, st1, ev_mono hΦ b ε1 (fun e ε2 h w F2 H2 fp2 g2 st2 _ r2 => ?_) h⟩
  obtain ⟨ok, h⟩ := h
  obtain ⟨r, e1, h⟩ := retD_some h
  exact ⟨Z, F2, d, e, r, g2.hi, (l1.gr g2).late st2 ok, r2, e1, h.nx (g1.trans g2) st2 rfl rfl⟩
theorem ce_bin {o : Op2} {p : Operator} (ho : opB o = some p) (ha : PE X x (tCe Φ a)) (hb : PE X y (tCe Φ b)) : PE X (.BinOp x p y pos) (tCe Φ (.op o a b)) :=
  (pe_op (bin_ok ho) ha hb).imp fun _ _ _ h => op_core hΦ h
theorem ce_cmp (hu : X.A.units + 65 < cLine) {o : Op2} {p : CmpOp} (ho : opC o = some p) (ha : PE X x (tCe Φ a)) (hb : PE X y (tCe Φ b)) (hm : behindInMarks p y = false) : PE X (.Compare x [p] [y] pos) (tCe Φ (.op o a b)) :=
  (pe_cmpR (cmp_ok hu ho) ha hb hm).imp fun _ _ _ h => op_core hΦ h
theorem te_cmp (hu : X.A.units + 65 < cLine) {o : Op2} {p : CmpOp} (ho : opC o = some p) (ha : PE X x (tCe Φ a)) (hb : PE X y (tCe Φ b)) (hm : behindInMarks p y = false) : PT X (.Compare x [p] [y] pos) (tTe Φ (.v (.op o a b))) :=
  (pt_cmpR (cmp_ok hu ho) ha hb hm).imp fun σ H Q ⟨Z, F, ε, fp, hi, st, h⟩ => by
    refine op_core hΦ (o := o) ⟨Z, F, ε, fp, hi, st, ?_⟩
    simp only [evT] at h
    simp only [ev] at h ⊢
    refine ev_mono hΦ a ε (fun d ε1 h => ev_mono hΦ b ε1 (fun e ε2 h => ⟨h.1, ?_⟩) h) h
    obtain ⟨r, e1, h⟩ := retD_some h.2
    obtain ⟨k, rfl⟩ := op2_bl ho e1
    rw [e1]
    intro v F' H' fp' g' st' _ r'
    obtain rfl := r'.blv
    exact ⟨k, rfl, h F' H' fp' g' st'⟩
theorem ce_neg (ha : PE X x (tCe Φ a)) : PE X (.UnaryOp .USub x pos) (tCe Φ (.un .neg a)) :=
  (pe_un un_neg ha).imp fun σ H Q ⟨Z, F, ε, fp, hi, st, h⟩ => by
    simp only [ev] at h
    refine ⟨Z, F, ε, fp, hi, st, ev_mono hΦ a ε (fun d ε1 h v F1 H1 fp1 g1 st1 l1 r1 => ?_) h⟩
    obtain ⟨r, e1, h⟩ := retD_some h
    cases d <;> simp only [op1] at e1 <;> try (cases e1)
    obtain rfl := r1.intv
    exact ⟨_, rfl, (h.nx g1 st1 rfl rfl).same g1.hi (.int _)⟩
theorem ce_nt (ha : PE X x (tCe Φ a)) : PE X (.UnaryOp .Not x pos) (tCe Φ (.un .nt a)) :=
  (pe_not ha).imp fun σ H Q ⟨Z, F, ε, fp, hi, st, h⟩ => by
    simp only [ev] at h
    refine ⟨Z, F, ε, fp, hi, st, ev_mono hΦ a ε (fun d ε1 h v F1 H1 fp1 g1 st1 l1 r1 => ?_) h⟩
    obtain ⟨r, e1, h⟩ := retD_some h
    cases d <;> simp only [op1] at e1 <;> try (cases e1)
    obtain rfl := r1.blv
    exact ⟨_, rfl, (h.nx g1 st1 rfl rfl).same g1.hi (.bl _)⟩
theorem ce_isN {k : Nat} {p2 : Pos} (ha : PE X x (tCe Φ a)) : PE X (.Compare x [.Is] [.Constant .none k p2] pos) (tCe Φ (.un .isN a)) :=
  (pe_cmpR op_isN ha pe_non (by rfl)).imp fun σ H Q ⟨Z, F, ε, fp, hi, st, h⟩ => by
    simp only [ev] at h
    refine ⟨Z, F, ε, fp, hi, st, ev_mono hΦ a ε (fun d ε1 h v F1 H1 fp1 g1 st1 l1 r1 => ?_) h⟩
    have h : EQ Z F H fp σ (.un .isN a) Q (.bool (isNoneD d)) ε1 := by cases d <;> exact h
    refine ⟨rfl, ?_⟩
    rw [isN_dec r1]
    exact (h.nx g1 st1 rfl rfl).same g1.hi (.bl _)
theorem ce_notN {k : Nat} {p2 : Pos} (ha : PE X x (tCe Φ a)) : PE X (.Compare x [.IsNot] [.Constant .none k p2] pos) (tCe Φ (.un .notN a)) :=
  (pe_cmpR op_notN ha pe_non (by rfl)).imp fun σ H Q ⟨Z, F, ε, fp, hi, st, h⟩ => by
    simp only [ev] at h
    refine ⟨Z, F, ε, fp, hi, st, ev_mono hΦ a ε (fun d ε1 h v F1 H1 fp1 g1 st1 l1 r1 => ?_) h⟩
    have h : EQ Z F H fp σ (.un .notN a) Q (.bool (!isNoneD d)) ε1 := by cases d <;> exact h
    refine ⟨rfl, ?_⟩
    rw [isN_dec r1]
    exact (h.nx g1 st1 rfl rfl).same g1.hi (.bl _)
theorem te_isN {k : Nat} {p2 : Pos} (ha : PE X x (tCe Φ a)) : PT X (.Compare x [.Is] [.Constant .none k p2] pos) (tTe Φ (.v (.un .isN a))) :=
  (pt_cmpR op_isN ha pe_non (by rfl)).imp fun σ H Q ⟨Z, F, ε, fp, hi, st, h⟩ => by
    simp only [evT, ev] at h
    refine ⟨Z, F, ε, fp, hi, st, ev_mono hΦ a ε (fun d ε1 h v F1 H1 fp1 g1 st1 l1 r1 => ?_) h⟩
    have h : EQT Z F H fp σ Q (isNoneD d) ε1 := by cases d <;> exact h
    refine ⟨rfl, _, rfl, ?_⟩
    rw [isN_dec r1]
    exact h F1 H1 fp1 g1 st1
theorem te_notN {k : Nat} {p2 : Pos} (ha : PE X x (tCe Φ a)) : PT X (.Compare x [.IsNot] [.Constant .none k p2] pos) (tTe Φ (.v (.un .notN a))) :=
  (pt_cmpR op_notN ha pe_non (by rfl)).imp fun σ H Q ⟨Z, F, ε, fp, hi, st, h⟩ => by
    simp only [evT, ev] at h
    refine ⟨Z, F, ε, fp, hi, st, ev_mono hΦ a ε (fun d ε1 h v F1 H1 fp1 g1 st1 l1 r1 => ?_) h⟩
    have h : EQT Z F H fp σ Q (!isNoneD d) ε1 := by cases d <;> exact h
    refine ⟨rfl, _, rfl, ?_⟩
    rw [isN_dec r1]
    exact h F1 H1 fp1 g1 st1
end
end Ev
/-! Ev7: the other expressions -/
namespace Ev
open PySem PySem.Spec PyProof.Rows L2
/-- a def's promise: what its meaning g says, over data -/
def spF (n : Nat) (g : List PyData → (PyData → Prop) → Prop) : Sp := fun vs H Q _ => vs.length = n ∧ ∃ Z F ds, HI Z F H ∧ RpA Z F vs ds ∧ g ds (fun d => Nx Z F H d Q)
variable {Φ : Tab} (hΦ : Φ.Mono)
section
variable {X : Cx} {x y z : Expr} {a b c : C} {pos : Pos} {es : List Expr} {cs : Cs}
theorem cs_nil : PA X [] (tCs Φ .nil) :=
  pa_nil.imp fun σ H Q ⟨Z, F, ε, fp, hi, st, h⟩ => by
    simp only [evs] at h
    exact h [] F H fp (Gr.refl hi) st trivial
include hΦ
theorem cs_cons (ha : PE X x (tCe Φ a)) (hr : PA X es (tCs Φ cs)) (hs : starEach (x :: es) X.env = (false, eval x X.env) :: starEach es X.env) : PA X (x :: es) (tCs Φ (.cons a cs)) :=
  (pa_cons ha hr hs).imp fun σ H Q ⟨Z, F, ε, fp, hi, st, h⟩ => by
    simp only [evs] at h
    refine ⟨Z, F, ε, fp, hi, st, ev_mono hΦ a ε (fun d ε1 h v F1 H1 fp1 g1 st1 l1 _ => ?_) h⟩
    refine ⟨Z, F1, ε1, fp1, g1.hi, st1, evs_mono hΦ cs ε1 (fun ds ε2 h vs F2 H2 fp2 g2 st2 l2 => ?_) h⟩
    exact h (v :: vs) F2 H2 fp2 (g1.trans g2) st2 ⟨l1.gr g2, l2.base fun b e => g1.there b e⟩
/-- the items shared -/
theorem cs_shared {Q : List V → Hp → Prop} {σ : L2.St} {H : Hp} (hs : shCs cs = true) {Z : Zs} {F : Hp} {ε : Env} {fp : Nat → List Addr} (hi : HI Z F H) (st : StR Z F H σ ε fp) {q : List PyData → Env → Prop} (h : evs Φ cs ε q)
    (k : ∀ ds ε' vs F' H' fp', q ds ε' → Gr Z (Mf fp) F H (Mf fp') F' H' → StR Z F' H' σ ε' fp' → RpA Z F' vs ds → Q vs H') : tCs Φ cs σ H Q :=
  ⟨Z, F, ε, fp, hi, st, evs_mono hΦ cs ε (fun ds ε1 h vs F1 H1 fp1 g1 st1 l1 => by
    obtain ⟨F2, g2, st2, r2, _⟩ := FzA.go (l1.fz hs) g1 st1
    exact k ds ε1 vs F2 H1 fp1 h g2 st2 r2) h⟩
theorem ce_tup {k : Nat} (hs : shCs cs = true) (hl : es.length ≤ 1000) (hcs : cs.len = es.length) (ha : PA X es (tCs Φ cs)) : PE X (.Tuple es k pos) (tCe Φ (.tup cs)) :=
  (pe_tup ha).imp fun σ H Q ⟨Z, F, ε, fp, hi, st, h⟩ => by
    simp only [ev] at h
    refine cs_shared hΦ hs hi st (evs_len hΦ cs ε h) fun ds ε1 vs F1 H1 fp1 h g1 st1 r1 => ⟨by rw [r1.length, h.1, hcs, sizeLine_eq]; omega, ?_⟩
    exact (h.2.nx g1 st1 rfl rfl).tup g1.hi r1
theorem ce_lst (hs : shCs cs = true) (hl : es.length ≤ 1000) (hcs : cs.len = es.length) (ha : PA X es (tCs Φ cs)) : PE X (.List es pos) (tCe Φ (.lst cs)) :=
  (pe_lst ha).imp fun σ H Q ⟨Z, F, ε, fp, hi, st, h⟩ => by
    simp only [ev] at h
    refine cs_shared hΦ hs hi st (evs_len hΦ cs ε h) fun ds ε1 vs F1 H1 fp1 h g1 st1 r1 => ⟨by rw [r1.length, h.1, hcs, sizeLine_eq]; omega, fun p hp => ?_⟩
    have gl := g1.hi.lay (o := .lst vs) hp
    have hn := g1.there p hp
    have hm := st1.noM hp
    have hN : RdN Z H (Mf fp1) F1 (upd H1 p (.lst vs)) (.ref p) (.list ds) := ⟨p, _, rfl, hn, hm, g1.hi.fresh hp, g1.hi.nodom hp, upd_same, r1⟩
    exact h.2 _ F1 _ fp1 (g1.trans gl.lift) (st1.gr0 gl) (.of_new rfl rfl hN) (.inr hN.old)
theorem ce_dnew {t : Bool} : PE X (.Dict [] [] pos) (tCe Φ (.dnew t)) := by
  cases t with
  | false =>
    refine pe_dnewK.imp fun σ H Q ⟨Z, F, ε, fp, hi, st, h⟩ => ?_
    simp only [ev] at h
    intro p hp
    have gl := hi.lay (o := .dK []) hp
    have hN : RdN Z H (Mf fp) F (upd H p (.dK [])) (.ref p) (.dict []) := ⟨p, _, rfl, hp, st.noM hp, hi.fresh hp, hi.nodom hp, upd_same, RpK.nil⟩
    exact h _ F _ fp gl.lift (st.gr0 gl) (.of_new rfl rfl hN) (.inr hN.old)
  | true =>
    refine pe_dnewT.imp fun σ H Q ⟨Z, F, ε, fp, hi, st, h⟩ => ?_
    simp only [ev] at h
    intro p hp
    have gl := hi.lay (o := .dT []) hp
    have hN : RdN Z H (Mf fp) F (upd H p (.dT [])) (.ref p) (.dict [(.none, .bool false)]) := ⟨p, _, rfl, hp, st.noM hp, hi.fresh hp, hi.nodom hp, upd_same, ⟨rfl, RpT.nil⟩⟩
    exact h _ F _ fp gl.lift (st.gr0 gl) (.of_new rfl rfl hN) (.inr hN.old)
theorem ce_chain (hu : X.A.units + 65 < cLine) {o o' : Op2} {p p' : CmpOp} (ho : opC o = some p) (ho' : opC o' = some p') (ha : PE X x (tCe Φ a)) (hb : PE X y (tCe Φ b)) (hc : PE X z (tCe Φ c)) (hm : lastMarks [p, p'] [y, z] = false) :
    PE X (.Compare x [p, p'] [y, z] pos) (tCe Φ (.chain o o' a b c)) :=
  (pe_chain (cmp_ok hu ho) (cmp_ok hu ho') ha hb hc hm).imp fun σ H Q ⟨Z, F, ε, fp, hi, st, h⟩ => by
    simp only [ev] at h
    refine ⟨Z, F, ε, fp, hi, st, ev_mono hΦ a ε (fun d ε1 h v F1 H1 fp1 g1 st1 l1 _ => ?_) h⟩
    refine ⟨Z, F1, ε1, fp1, g1.hi, st1, ev_mono hΦ b ε1 (fun e ε2 h w F2 H2 fp2 g2 st2 l2 r2 => ?_) h⟩
    obtain ⟨ok, h⟩ := h
    split at h
    · rename_i e1
      refine ⟨Z, F2, d, e, _, g2.hi, (l1.gr g2).late st2 ok, r2, e1, fun u F3 H3 g3 r3 => ?_⟩
      obtain rfl := r3.blv
      refine ⟨true, rfl, iteT ?_⟩
      have g03 := (g1.trans g2).trans g3.lift
      have st3 := st2.gr0 g3
      refine ⟨Z, F3, ε2, fp2, g3.hi, st3, ev_mono hΦ c ε2 (fun e3 ε3 h w3 F4 H4 fp4 g4 st4 l4 r4 => ?_) h⟩
      obtain ⟨ok2, h⟩ := h
      obtain ⟨r, e4, h⟩ := retD_some h
      exact ⟨Z, F4, e, e3, r, g4.hi, ((l2.gr g3.lift).gr g4).late st4 ok2, r4, e4, h.nx (g03.trans g4) st4 rfl rfl⟩
    · rename_i e1
      refine ⟨Z, F2, d, e, _, g2.hi, (l1.gr g2).late st2 ok, r2, e1, fun u F3 H3 g3 r3 => ?_⟩
      obtain rfl := r3.blv
      exact ⟨false, rfl, iteF ((h.nx ((g1.trans g2).trans g3.lift) (st2.gr0 g3) rfl rfl).same g3.hi (.bl _))⟩
    · exact h.elim
theorem te_chain (hu : X.A.units + 65 < cLine) {o o' : Op2} {p p' : CmpOp} (ho : opC o = some p) (ho' : opC o' = some p') (ha : PE X x (tCe Φ a)) (hb : PE X y (tCe Φ b)) (hc : PE X z (tCe Φ c)) (hm : lastMarks [p, p'] [y, z] = false) :
    PT X (.Compare x [p, p'] [y, z] pos) (tTe Φ (.v (.chain o o' a b c))) :=
  (pt_chain (cmp_ok hu ho) (cmp_ok hu ho') ha hb hc hm).imp fun σ H Q ⟨Z, F, ε, fp, hi, st, h⟩ => by
    simp only [evT, ev] at h
    refine ⟨Z, F, ε, fp, hi, st, ev_mono hΦ a ε (fun d ε1 h v F1 H1 fp1 g1 st1 l1 _ => ?_) h⟩
    refine ⟨Z, F1, ε1, fp1, g1.hi, st1, ev_mono hΦ b ε1 (fun e ε2 h w F2 H2 fp2 g2 st2 l2 r2 => ?_) h⟩
    obtain ⟨ok, h⟩ := h
    split at h
    · rename_i e1
      refine ⟨Z, F2, d, e, _, g2.hi, (l1.gr g2).late st2 ok, r2, e1, fun u F3 H3 g3 r3 => ?_⟩
      obtain rfl := r3.blv
      refine ⟨true, rfl, iteT ?_⟩
      have g03 := (g1.trans g2).trans g3.lift
      have st3 := st2.gr0 g3
      refine ⟨Z, F3, ε2, fp2, g3.hi, st3, ev_mono hΦ c ε2 (fun e3 ε3 h w3 F4 H4 fp4 g4 st4 l4 r4 => ?_) h⟩
      obtain ⟨ok2, h⟩ := h
      obtain ⟨r, e4, h⟩ := retD_some h
      obtain ⟨k, rfl⟩ := op2_bl ho' e4
      refine ⟨Z, F4, e, e3, _, g4.hi, ((l2.gr g3.lift).gr g4).late st4 ok2, r4, e4, fun u F5 H5 g5 r5 => ?_⟩
      obtain rfl := r5.blv
      exact ⟨k, rfl, h F5 H5 fp4 ((g03.trans g4).trans g5.lift) (st4.gr0 g5)⟩
    · rename_i e1
      refine ⟨Z, F2, d, e, _, g2.hi, (l1.gr g2).late st2 ok, r2, e1, fun u F3 H3 g3 r3 => ?_⟩
      obtain rfl := r3.blv
      exact ⟨false, rfl, iteF ⟨false, rfl, h F3 H3 fp2 ((g1.trans g2).trans g3.lift) (st2.gr0 g3)⟩⟩
    · exact h.elim
theorem ce_nd {r : List Expr} (ha : PE X x (tCe Φ a)) (hb : PE X (.BoolOp .And (y :: r) pos) (tCe Φ b)) (hb' : shC b = true) (hbf : frC b = false) : PE X (.BoolOp .And (x :: y :: r) pos) (tCe Φ (.nd a b)) :=
  (pe_and ha hb).imp fun σ H Q ⟨Z, F, ε, fp, hi, st, h⟩ => by
    simp only [ev] at h
    refine ⟨Z, F, ε, fp, hi, st, ev_mono hΦ a ε (fun d ε1 h v F1 H1 fp1 g1 st1 l1 r1 => ?_) h⟩
    split at h
    · obtain rfl := r1.blv
      refine ⟨true, rfl, iteT ⟨Z, F1, ε1, fp1, g1.hi, st1, ev_mono hΦ b ε1 (fun e ε2 h w F2 H2 fp2 g2 st2 l2 r2 => ?_) h⟩⟩
      refine h w F2 H2 fp2 (g1.trans g2) st2 ?_ r2
      rcases l2.cases with ⟨i, e, _⟩ | ⟨_, e, _⟩ | ⟨_, _, e⟩
      · rw [e] at hb'; cases hb'
      · rw [hbf] at e; cases e
      · exact .of_rp rfl rfl e
    · obtain rfl := r1.blv
      exact ⟨false, rfl, iteF ((h.nx g1 st1 rfl rfl).same g1.hi (.bl _))⟩
    · exact h.elim
theorem ce_or {r : List Expr} (ha : PE X x (tCe Φ a)) (hb : PE X (.BoolOp .Or (y :: r) pos) (tCe Φ b)) (hb' : shC b = true) (hbf : frC b = false) : PE X (.BoolOp .Or (x :: y :: r) pos) (tCe Φ (.or a b)) :=
  (pe_or ha hb).imp fun σ H Q ⟨Z, F, ε, fp, hi, st, h⟩ => by
    simp only [ev] at h
    refine ⟨Z, F, ε, fp, hi, st, ev_mono hΦ a ε (fun d ε1 h v F1 H1 fp1 g1 st1 l1 r1 => ?_) h⟩
    split at h
    · obtain rfl := r1.blv
      exact ⟨true, rfl, iteT ((h.nx g1 st1 rfl rfl).same g1.hi (.bl _))⟩
    · obtain rfl := r1.blv
      refine ⟨false, rfl, iteF ⟨Z, F1, ε1, fp1, g1.hi, st1, ev_mono hΦ b ε1 (fun e ε2 h w F2 H2 fp2 g2 st2 l2 r2 => ?_) h⟩⟩
      refine h w F2 H2 fp2 (g1.trans g2) st2 ?_ r2
      rcases l2.cases with ⟨i, e, _⟩ | ⟨_, e, _⟩ | ⟨_, _, e⟩
      · rw [e] at hb'; cases hb'
      · rw [hbf] at e; cases e
      · exact .of_rp rfl rfl e
    · exact h.elim
/-- the freezing of one value -/
theorem ce_frz (h1 : shC a = true) {Z : Zs} {F H F0 H0 : Hp} {fp0 : Nat → List Addr} {ε : Env} {fp : Nat → List Addr} {σ : L2.St} {q : PyData → Env → Prop} {Q : VK} (hi : HI Z F H) (st : StR Z F H σ ε fp) (g0 : Gr Z (Mf fp0) F0 H0 (Mf fp) F H) (h : ev Φ a ε q)
    (k : ∀ d ε' v F' H' fp', q d ε' → Gr Z (Mf fp0) F0 H0 (Mf fp') F' H' → StR Z F' H' σ ε' fp' → Rp Z F' v d → Q v H') : tCe Φ a σ H Q :=
  ⟨Z, F, ε, fp, hi, st, ev_mono hΦ a ε (fun d ε1 h v F1 H1 fp1 g1 st1 l1 _ => by
    obtain ⟨F2, g2, st2, r2, _⟩ := (l1.fz h1).go g1 st1
    exact k d ε1 v F2 H1 fp1 h (g0.trans g2) st2 r2) h⟩
theorem ce_ite {t : T} (ht : PT X x (tTe Φ t)) (ha : PE X y (tCe Φ a)) (hb : PE X z (tCe Φ b)) (h1 : shC a = true) (h2 : shC b = true) : PE X (.IfExp x y z pos) (tCe Φ (.ite t a b)) :=
  (pe_ifExp ht ha hb).imp fun σ H Q ⟨Z, F, ε, fp, hi, st, h⟩ => by
    simp only [ev] at h
    refine ⟨Z, F, ε, fp, hi, st, evT_mono hΦ t ε (fun c ε1 h F1 H1 fp1 g1 st1 => ?_) h⟩
    cases c with
    | true => exact iteT (ce_frz hΦ h1 g1.hi st1 g1 h fun d ε' v F' H' fp' h g s r => h v F' H' fp' g s (.of_rp rfl rfl r) (.inl r))
    | false => exact iteF (ce_frz hΦ h2 g1.hi st1 g1 h fun d ε' v F' H' fp' h g s r => h v F' H' fp' g s (.of_rp rfl rfl r) (.inl r))
theorem ce_idx (hu : X.A.units + 1 < cLine) (hp : PlainIx y) (ha : PE X x (tCe Φ a)) (hb : PE X y (tCe Φ b)) : PE X (.Subscript x y pos) (tCe Φ (.idx a b)) :=
  (pe_ix (ix_ok hu) ha hb hp).imp fun σ H Q ⟨Z, F, ε, fp, hi, st, h⟩ => by
    simp only [ev] at h
    refine ⟨Z, F, ε, fp, hi, st, ev_mono hΦ a ε (fun d ε1 h v F1 H1 fp1 g1 st1 l1 _ => ?_) h⟩
    refine ⟨Z, F1, ε1, fp1, g1.hi, st1, ev_mono hΦ b ε1 (fun e ε2 h w F2 H2 fp2 g2 st2 _ r2 => ?_) h⟩
    obtain ⟨ok, h⟩ := h
    obtain ⟨r, e1, h⟩ := retD_some h
    exact ⟨Z, F2, d, e, r, g2.hi, (l1.gr g2).late st2 ok, r2, e1, h.nx (g1.trans g2) st2 rfl rfl⟩
omit hΦ in
theorem oe_no : PO X none (tOe Φ .no) :=
  po_none.imp fun σ H Q ⟨Z, F, ε, fp, hi, st, h⟩ => by
    simp only [evO] at h
    exact h F H fp (Gr.refl hi) st
theorem oe_so (ha : PE X x (tCe Φ a)) : PO X (some x) (tOe Φ (.so a)) :=
  (po_some ha).imp fun σ H Q ⟨Z, F, ε, fp, hi, st, h⟩ => by
    simp only [evO] at h
    refine ⟨Z, F, ε, fp, hi, st, ev_mono hΦ a ε (fun d ε1 h v F1 H1 fp1 g1 st1 l1 r1 => ?_) h⟩
    split at h
    · obtain rfl := r1.intv
      exact ⟨_, rfl, h F1 H1 fp1 g1 st1⟩
    · exact h.elim
theorem ce_slc {lo hi' : O} {l u : Option Expr} {p2 : Pos} (ha : PE X x (tCe Φ a)) (hl : PO X l (tOe Φ lo)) (hh : PO X u (tOe Φ hi')) : PE X (.Subscript x (.Slice l u none p2) pos) (tCe Φ (.slc a lo hi')) :=
  (pe_slice sl_ok ha hl hh).imp fun σ H Q ⟨Z, F, ε, fp, hi, st, h⟩ => by
    simp only [ev] at h
    refine ⟨Z, F, ε, fp, hi, st, ev_mono hΦ a ε (fun d ε1 h v F1 H1 fp1 g1 st1 l1 _ => ?_) h⟩
    refine ⟨Z, F1, ε1, fp1, g1.hi, st1, evO_mono hΦ lo ε1 (fun i ε2 h F2 H2 fp2 g2 st2 => ?_) h⟩
    refine ⟨Z, F2, ε2, fp2, g2.hi, st2, evO_mono hΦ hi' ε2 (fun j ε3 h F3 H3 fp3 g3 st3 => ?_) h⟩
    obtain ⟨ok, h⟩ := h
    obtain ⟨r, e1, h⟩ := retD_some h
    exact ⟨Z, F3, d, r, g3.hi, ((l1.gr g2).gr g3).late st3 ok, e1, h.nx ((g1.trans g2).trans g3) st3 rfl rfl⟩
theorem ce_rev {k : Nat} {p1 p2 p3 : Pos} (ha : PE X x (tCe Φ a)) : PE X (.Subscript x (.Slice none none (some (.UnaryOp .USub (.Constant (.int 1) k p1) p2)) p3) pos) (tCe Φ (.rev a)) :=
  (pe_revL ha).imp fun σ H Q ⟨Z, F, ε, fp, hi, st, h⟩ => by
    simp only [ev] at h
    refine ⟨Z, F, ε, fp, hi, st, ev_mono hΦ a ε (fun d ε1 h v F1 H1 fp1 g1 st1 l1 r1 => ?_) h⟩
    split at h
    · obtain ⟨p, xs, rfl, hA, rA⟩ := r1.list g1.hi.sub
      exact ⟨p, xs, rfl, .of hA, (h.nx g1 st1 rfl rfl).lst g1.hi rA.reverse⟩
    · exact h.elim
theorem ce_cl {f n k : Nat} {fa : Addr} {fd : FuncData} {ps : List Str} {nm : Str} {p : Pos} (hs : shCs cs = true) (hl : (x :: es).length = n) (hcs : cs.len = (x :: es).length)
    (G : FnOk X.prog X.w X.K X.mg X.base CX0 k fa fd ps (spF n (Φ f))) (hr : Room k X.A) (hg : Gl X nm) (hm : X.mg nm = some (.ref fa)) (hk : PySem.W.keepIn X.K (.ref fa) = true) (hb : Binds X.K fd ps []) (ha : PA X (x :: es) (tCs Φ cs))
    (hdb : (nm == ("__debug__" : Str)) = false) (he : starEach (x :: es) X.env = (false, eval x X.env) :: starEach es X.env) (hpl : (backTo pos (starEach es X.env)).any (·.1) = false) : PE X (.Call (.Name nm p) (x :: es) [] pos) (tCe Φ (.cl f cs)) :=
  (pe_call G hr hg hm hk hb .nil pass0 ha hdb he hpl).imp fun σ H Q ⟨Z, F, ε, fp, hi, st, h⟩ => by
    simp only [ev] at h
    refine cs_shared hΦ hs hi st (evs_len hΦ cs ε h) fun ds ε1 vs F1 H1 fp1 h g1 st1 r1 => ?_
    refine ⟨by rw [List.append_nil, r1.length, h.1, hcs, hl], Z, F1, ds, g1.hi, by rw [List.append_nil]; exact r1, hΦ _ _ _ _ (fun d h => ?_) h.2⟩
    exact h.nx g1 st1 rfl rfl
theorem rd_core {σ : L2.St} {H : Hp} {f : Fn} {Q : VK} (h : tCe Φ (.bi f cs) σ H Q) : tCB (rDfn f) (tCs Φ cs) σ H Q := by
  obtain ⟨Z, F, ε, fp, hi, st, h⟩ := h
  simp only [ev] at h
  refine ⟨Z, F, ε, fp, hi, st, evs_mono hΦ cs ε (fun ds ε1 h vs F1 H1 fp1 g1 st1 l1 => ?_) h⟩
  obtain ⟨ok, h⟩ := h
  obtain ⟨r, e1, h⟩ := retD_some h
  exact ⟨Z, F1, ds, r, g1.hi, l1.late st1 ok, e1, h.nx g1 st1 rfl rfl⟩
theorem boot_fn {f : Fn} {ty : Bool} {n : String} (h : fnV f = some (ty, n)) : bootBuiltins (Str.ofString n) = some (if ty = true then .type n else .builtin n) ∧ Str.ofString n ≠ "__name__" ∧ (Str.ofString n == ("__debug__" : Str)) = false := by
  cases f <;> simp [fnV] at h <;> obtain ⟨rfl, rfl⟩ := h <;> decide +kernel
theorem ce_bi {f : Fn} {ty : Bool} {n : String} {p : Pos} (hf : fnV f = some (ty, n)) (hc : X.calm = true) (hg : Gl X (Str.ofString n)) (hm : X.mg (Str.ofString n) = none) (ha : PA X (x :: es) (tCs Φ cs))
    (he : starEach (x :: es) X.env = (false, eval x X.env) :: starEach es X.env) (hpl : (backTo pos (starEach es X.env)).any (·.1) = false) : PE X (.Call (.Name (Str.ofString n) p) (x :: es) [] pos) (tCe Φ (.bi f cs)) := by
  obtain ⟨h1, h2, h3⟩ := boot_fn hΦ hf
  have hr := fn_ok hc hf
  cases ty with
  | true => exact (pe_callTy hr hg hm h1 ha h2 h3 he hpl).imp fun _ _ _ h => rd_core hΦ h
  | false => exact (pe_callB hr hg hm h1 ha h2 h3 he hpl).imp fun _ _ _ h => rd_core hΦ h
theorem ce_sortset {p1 p2 q1 q2 : Pos} (hc : X.calm = true) (g1 : Gl X "sorted") (m1 : X.mg "sorted" = none) (g2 : Gl X "set") (m2 : X.mg "set" = none) (ha : PE X x (tCe Φ a)) (hs : starEach [x] X.env = (false, eval x X.env) :: starEach [] X.env) :
    PE X (.Call (.Name "sorted" p1) [.Call (.Name "set" p2) [x] [] q2] [] q1) (tCe Φ (.bi .sortset (.cons a .nil))) :=
  (pe_sortset hc g1 m1 g2 m2 ha hs).imp fun σ H Q ⟨Z, F, ε, fp, hi, st, h⟩ => by
    simp only [ev, evs] at h
    refine ⟨Z, F, ε, fp, hi, st, ev_mono hΦ a ε (fun d ε1 h v F1 H1 fp1 g1 st1 l1 r1 => ?_) h⟩
    obtain ⟨_, h⟩ := h
    obtain ⟨r, e1, h⟩ := retD_some h
    have : ∃ es ns, d = .list es ∧ intsOf es = some ns ∧ ns.length < 64 ∧ r = .list ((sortU ns).map .int) := by
      cases d <;> simp only [fnS] at e1 <;> try (cases e1; done)
      split at e1 <;> try (cases e1; done)
      split at e1 <;> cases e1
      exact ⟨_, _, rfl, by assumption, by assumption, rfl⟩
    obtain ⟨es, ns, rfl, hn, h64, rfl⟩ := this
    exact sort_nx X.w g1.hi r1 hn h64 (h.nx g1 st1 rfl rfl)
theorem rng_eq {n : Int} (h0 : 0 ≤ n) : rgV 0 n = ((List.range n.toNat).map fun (i : Nat) => (i : Int)).map V.int := by
  unfold rgV
  rw [List.map_map, show (n - 0).toNat = n.toNat by omega]
  congr 1
  funext i
  simp
theorem ce_listrng {p1 p2 q1 q2 : Pos} (hc : X.calm = true) (g1 : Gl X "list") (m1 : X.mg "list" = none) (g2 : Gl X "range") (m2 : X.mg "range" = none) (ha : PE X x (tCe Φ a)) (hs : starEach [x] X.env = (false, eval x X.env) :: starEach [] X.env) :
    PE X (.Call (.Name "list" p1) [.Call (.Name "range" p2) [x] [] q2] [] q1) (tCe Φ (.bi .listrng (.cons a .nil))) :=
  (pe_listRg hc g1 m1 (prg_1 g2 m2 ha hs) rfl).imp fun σ H Q ⟨Z, F, ε, fp, hi, st, h⟩ => by
    simp only [ev, evs] at h
    refine ⟨Z, F, ε, fp, hi, st, ev_mono hΦ a ε (fun d ε1 h v F1 H1 fp1 g1 st1 l1 r1 => ?_) h⟩
    obtain ⟨_, h⟩ := h
    obtain ⟨r, e1, h⟩ := retD_some h
    have : ∃ n, d = .int n ∧ (0 ≤ n ∧ n ≤ 16777216) ∧ r = .list ((List.range n.toNat).map fun (i : Nat) => .int i) := by
      cases d <;> simp only [fnS] at e1 <;> try (cases e1; done)
      split at e1 <;> cases e1
      rename_i hn
      exact ⟨_, rfl, hn, rfl⟩
    obtain ⟨n, rfl, hn, rfl⟩ := this
    obtain rfl := r1.intv
    have hL := hn.2
    refine ⟨n, rfl, RgOk.of_le (Int.le_refl 0) hL (by decide) hn.1, ?_⟩
    rw [rng_eq hΦ hn.1]
    have e2 : ((List.range n.toNat).map fun (i : Nat) => PyData.int i) = ((List.range n.toNat).map fun (i : Nat) => (i : Int)).map .int := by rw [List.map_map]; rfl
    rw [e2] at h
    exact (h.nx g1 st1 rfl rfl).lst g1.hi (RpA.of_ints _ _ _)
theorem ce_tuprng {p1 p2 q1 q2 : Pos} (hc : X.calm = true) (g1 : Gl X "tuple") (m1 : X.mg "tuple" = none) (g2 : Gl X "range") (m2 : X.mg "range" = none) (ha : PE X x (tCe Φ a)) (hs : starEach [x] X.env = (false, eval x X.env) :: starEach [] X.env) :
    PE X (.Call (.Name "tuple" p1) [.Call (.Name "range" p2) [x] [] q2] [] q1) (tCe Φ (.bi .tuprng (.cons a .nil))) :=
  (pe_tupRg hc g1 m1 (prg_1 g2 m2 ha hs) rfl).imp fun σ H Q ⟨Z, F, ε, fp, hi, st, h⟩ => by
    simp only [ev, evs] at h
    refine ⟨Z, F, ε, fp, hi, st, ev_mono hΦ a ε (fun d ε1 h v F1 H1 fp1 g1 st1 l1 r1 => ?_) h⟩
    obtain ⟨_, h⟩ := h
    obtain ⟨r, e1, h⟩ := retD_some h
    have : ∃ n, d = .int n ∧ (0 ≤ n ∧ n ≤ 16777216) ∧ r = .tuple ((List.range n.toNat).map fun (i : Nat) => .int i) := by
      cases d <;> simp only [fnS] at e1 <;> try (cases e1; done)
      split at e1 <;> cases e1
      rename_i hn
      exact ⟨_, rfl, hn, rfl⟩
    obtain ⟨n, rfl, hn, rfl⟩ := this
    obtain rfl := r1.intv
    have hL := hn.2
    refine ⟨n, rfl, RgOk.of_le (Int.le_refl 0) hL (by decide) hn.1, ?_⟩
    rw [rng_eq hΦ hn.1]
    have e2 : ((List.range n.toNat).map fun (i : Nat) => PyData.int i) = ((List.range n.toNat).map fun (i : Nat) => (i : Int)).map .int := by rw [List.map_map]; rfl
    rw [e2] at h
    exact (h.nx g1 st1 rfl rfl).tup g1.hi (RpA.of_ints _ _ _)
theorem ce_index {apos : Pos} (hu : X.A.units + 65 < cLine) (ho : PE X x (tCe Φ a)) (ha : PE X y (tCe Φ b)) (hbase : attributeBase x "index" X.env (eval x X.env) = eval x X.env) (hy : starEach [y] X.env = (false, eval y X.env) :: starEach [] X.env) (hline : (apos.endLine == pos.line) = true) :
    PE X (.Call (.Attribute x "index" apos) [y] [] pos) (tCe Φ (.mt .index a (.cons b .nil))) :=
  (pe_bm (r := rDmt .index) PySem.F.plainAttrs_list PySem.F.slot_list_index PySem.F.type_list_index (mt_index_ok hu) ho (cs_cons hΦ ha cs_nil hy) hbase (by rw [hy]; rfl) hline hy (by rfl)).imp fun σ H Q ⟨Z, F, ε, fp, hi, st, h⟩ => by
    simp only [ev] at h
    refine ⟨Z, F, ε, fp, hi, st, ev_mono hΦ a ε (fun d ε1 h v F1 H1 fp1 g1 st1 l1 r1 => ⟨?_, ?_⟩) h⟩
    · have h2 : ∃ es, d = .list es := by
        have h1 := h.1
        cases d <;> first | exact ⟨_, rfl⟩ | exact (Bool.false_ne_true h1).elim
      obtain ⟨es, rfl⟩ := h2
      obtain ⟨p, xs, rfl, hA, rA⟩ := r1.list g1.hi.sub
      exact .inl ⟨rfl, xs, .of hA⟩
    · refine ⟨Z, F1, ε1, fp1, g1.hi, st1, evs_mono hΦ _ ε1 (fun ds ε2 h vs F2 H2 fp2 g2 st2 l2 => ?_) h.2⟩
      obtain ⟨ok, oks, h⟩ := h
      obtain ⟨r, e1, h⟩ := retD_some h
      exact ⟨Z, F2, d, ds, r, g2.hi, (l1.gr g2).late st2 ok, l2.late st2 oks, e1, h.nx (g1.trans g2) st2 rfl rfl⟩
theorem dOk_is {Z : Zs} {F H : Hp} {v : V} {d : PyData} (hi : ∀ a o, F a = some o → H a = some o) (h : Rdd Z F H v d) (ok : dOk d = true) : ∃ a, v = .ref a ∧ IsD H a := by
  unfold dOk at ok
  split at ok
  · obtain ⟨a, ht, rfl, e, _⟩ := h.dictT hi
    exact ⟨a, rfl, .inr ⟨ht, .inl e⟩⟩
  · obtain ⟨a, hk, rfl, e, _⟩ := h.dictK hi ok
    exact ⟨a, rfl, .inl ⟨hk, .inl e⟩⟩
  · cases ok
theorem Lt.rp {c : C} {Z : Zs} {H0 : Hp} {M : Ms} {F H : Hp} {σ : L2.St} {v : V} {d : PyData} (h : Lt c Z H0 M F H σ v d) (hs : shC c = true) (hf : frC c = false) : Rp Z F v d := by
  rcases h.cases with ⟨i, rfl, _⟩ | ⟨_, hf', _⟩ | ⟨_, _, h⟩
  · cases hs
  · rw [hf] at hf'; cases hf'
  · exact h
theorem ce_get1 {apos : Pos} (hu : X.A.units + 1 < cLine) (ho : PE X x (tCe Φ a)) (hb : PE X y (tCe Φ b)) (hs : shC b = true) (hf : frC b = false) (m : M1 X x "get" apos y pos) : PE X (.Call (.Attribute x "get" apos) [y] [] pos) (tCe Φ (.mt .get a (.cons b .nil))) :=
  (pe_dget1 hu ho hb m).imp fun σ H Q ⟨Z, F, ε, fp, hi, st, h⟩ => by
    simp only [ev, evs] at h
    refine ⟨Z, F, ε, fp, hi, st, ev_mono hΦ a ε (fun d ε1 h v F1 H1 fp1 g1 st1 l1 r1 => ?_) h⟩
    obtain ⟨p, rfl, isd⟩ := dOk_is hΦ g1.hi.sub r1 h.1
    refine ⟨p, rfl, isd, Z, F1, ε1, fp1, g1.hi, st1, ev_mono hΦ b ε1 (fun k ε2 h w F2 H2 fp2 g2 st2 l2 r2 => ?_) h.2⟩
    obtain ⟨ok, _, h⟩ := h
    obtain ⟨r, e1, h⟩ := retD_some h
    have nx := h.nx (g1.trans g2) st2 rfl rfl
    cases e2 : dGet d k with
    | none => simp only [mtS, e2] at e1; cases e1
    | some o =>
      simp only [mtS, e2] at e1
      cases e1
      obtain ⟨p', o', e3, dg, q⟩ := dget_of g2.hi.sub ((l1.gr g2).late st2 ok) (.inl (l2.rp hΦ hs hf)) e2
      cases e3
      refine ⟨o', dg, ?_⟩
      rcases q with ⟨u, z, rfl, rfl, q⟩ | ⟨rfl, rfl⟩
      · exact nx.rd g2.hi q
      · exact nx.rd g2.hi .non
theorem ce_get2 {apos : Pos} {z : Expr} {c : C} (hu : X.A.units + 1 < cLine) (ho : PE X x (tCe Φ a)) (hb : PE X y (tCe Φ b)) (hc : PE X z (tCe Φ c)) (hs : shC b = true) (hf : frC b = false) (hs' : shC c = true) (hf' : frC c = false) (m : M2 X x "get" apos y z pos) : PE X (.Call (.Attribute x "get" apos) [y, z] [] pos) (tCe Φ (.mt .get a (.cons b (.cons c .nil)))) :=
  (pe_dget2 hu ho hb hc m).imp fun σ H Q ⟨Z, F, ε, fp, hi, st, h⟩ => by
    simp only [ev, evs] at h
    refine ⟨Z, F, ε, fp, hi, st, ev_mono hΦ a ε (fun d ε1 h v F1 H1 fp1 g1 st1 l1 r1 => ?_) h⟩
    obtain ⟨p, rfl, isd⟩ := dOk_is hΦ g1.hi.sub r1 h.1
    refine ⟨p, rfl, isd, Z, F1, ε1, fp1, g1.hi, st1, ev_mono hΦ b ε1 (fun k ε2 h w F2 H2 fp2 g2 st2 l2 r2 => ?_) h.2⟩
    refine ⟨Z, F2, ε2, fp2, g2.hi, st2, ev_mono hΦ c ε2 (fun y' ε3 h w3 F3 H3 fp3 g3 st3 l3 r3 => ?_) h⟩
    obtain ⟨ok, _, h⟩ := h
    obtain ⟨r, e1, h⟩ := retD_some h
    have nx := h.nx (g1.trans (g2.trans g3)) st3 rfl rfl
    cases e2 : dGet d k with
    | none => simp only [mtS, e2] at e1; cases e1
    | some o =>
      simp only [mtS, e2] at e1
      cases e1
      obtain ⟨p', o', e3, dg, q⟩ := dget_of g3.hi.sub ((l1.gr (g2.trans g3)).late st3 ok) (.inl (g3.rp (l2.rp hΦ hs hf))) e2
      cases e3
      refine ⟨o', dg, ?_⟩
      rcases q with ⟨u, z, rfl, rfl, q⟩ | ⟨rfl, rfl⟩
      · exact nx.rd g3.hi q
      · exact nx.rd g3.hi (l3.rp hΦ hs' hf')
end
end Ev
/-! Ev8: tests, targets, what is walked, list comprehensions -/
namespace Ev
open PySem PySem.Spec PyProof.Rows L2
variable {Φ : Tab} (hΦ : Φ.Mono)
theorem truth_of {K : PySem.W.Frag} {Z : Zs} {F H : Hp} {v : V} {d : PyData} {k : Bool} (hi : HI Z F H) (r : Rdd Z F H v d) (h : truthD d = some k) : TruV K v H k := by
  cases d <;> simp only [truthD] at h <;> first | (cases h; done) | skip
  · cases h; obtain rfl := r.nonv; exact rfl
  · cases h; obtain rfl := r.blv; exact rfl
  · cases h; obtain rfl := r.intv; exact rfl
  · cases h
    obtain ⟨a, xs, rfl, hA, rA⟩ := r.list hi.sub
    refine .inl ⟨xs, .of hA, ?_⟩
    cases rA <;> rfl
section
variable {X : Cx} {x y z : Expr} {a b c : C} {pos : Pos} {es : List Expr} {cs : Cs} {t u : T}
include hΦ
theorem te_v (ha : PE X x (tCe Φ a)) (he : ∀ whole, isTrue x X.env whole = (do let v ← whole; standAt x.pos; holding [v] (truthy v))) : PT X x (tTe Φ (.v a)) :=
  (pt_truth ha he).imp fun σ H Q ⟨Z, F, ε, fp, hi, st, h⟩ => by
    simp only [evT] at h
    refine ⟨Z, F, ε, fp, hi, st, ev_mono hΦ a ε (fun d ε1 h v F1 H1 fp1 g1 st1 l1 r1 => ?_) h⟩
    split at h
    · rename_i k e
      exact ⟨k, truth_of g1.hi r1 e, h F1 H1 fp1 g1 st1⟩
    · exact h.elim
theorem te_nt (ha : PT X x (tTe Φ t)) : PT X (.UnaryOp .Not x pos) (tTe Φ (.nt t)) :=
  (pt_not ha).imp fun σ H Q ⟨Z, F, ε, fp, hi, st, h⟩ => by
    simp only [evT] at h
    exact ⟨Z, F, ε, fp, hi, st, evT_mono hΦ t ε (fun k ε1 h F1 H1 fp1 g1 st1 => h F1 H1 fp1 g1 st1) h⟩
theorem tw_nd1 (ha : PT X x (tTe Φ t)) (hb : PT X y (tTe Φ u)) : PW X (.BoolOp .And [x, y] pos) (tTe Φ (.nd t u)) :=
  (pw_and ha (pw_and1 hb)).imp fun σ H Q ⟨Z, F, ε, fp, hi, st, h⟩ => by
    simp only [evT] at h
    refine ⟨Z, F, ε, fp, hi, st, evT_mono hΦ t ε (fun k ε1 h F1 H1 fp1 g1 st1 => ?_) h⟩
    cases k with
    | true => exact iteT ⟨Z, F1, ε1, fp1, g1.hi, st1, evT_mono hΦ u ε1 (fun k ε2 h F2 H2 fp2 g2 st2 => h F2 H2 fp2 (g1.trans g2) st2) h⟩
    | false => exact iteF (h F1 H1 fp1 g1 st1)
theorem tw_nd {r : List Expr} (ha : PT X x (tTe Φ t)) (hb : PW X (.BoolOp .And (y :: r) pos) (tTe Φ u)) : PW X (.BoolOp .And (x :: y :: r) pos) (tTe Φ (.nd t u)) :=
  (pw_and ha hb).imp fun σ H Q ⟨Z, F, ε, fp, hi, st, h⟩ => by
    simp only [evT] at h
    refine ⟨Z, F, ε, fp, hi, st, evT_mono hΦ t ε (fun k ε1 h F1 H1 fp1 g1 st1 => ?_) h⟩
    cases k with
    | true => exact iteT ⟨Z, F1, ε1, fp1, g1.hi, st1, evT_mono hΦ u ε1 (fun k ε2 h F2 H2 fp2 g2 st2 => h F2 H2 fp2 (g1.trans g2) st2) h⟩
    | false => exact iteF (h F1 H1 fp1 g1 st1)
theorem tw_or1 (ha : PT X x (tTe Φ t)) (hb : PT X y (tTe Φ u)) : PW X (.BoolOp .Or [x, y] pos) (tTe Φ (.or t u)) :=
  (pw_or ha (pw_or1 hb)).imp fun σ H Q ⟨Z, F, ε, fp, hi, st, h⟩ => by
    simp only [evT] at h
    refine ⟨Z, F, ε, fp, hi, st, evT_mono hΦ t ε (fun k ε1 h F1 H1 fp1 g1 st1 => ?_) h⟩
    cases k with
    | true => exact iteT (h F1 H1 fp1 g1 st1)
    | false => exact iteF ⟨Z, F1, ε1, fp1, g1.hi, st1, evT_mono hΦ u ε1 (fun k ε2 h F2 H2 fp2 g2 st2 => h F2 H2 fp2 (g1.trans g2) st2) h⟩
theorem tw_or {r : List Expr} (ha : PT X x (tTe Φ t)) (hb : PW X (.BoolOp .Or (y :: r) pos) (tTe Φ u)) : PW X (.BoolOp .Or (x :: y :: r) pos) (tTe Φ (.or t u)) :=
  (pw_or ha hb).imp fun σ H Q ⟨Z, F, ε, fp, hi, st, h⟩ => by
    simp only [evT] at h
    refine ⟨Z, F, ε, fp, hi, st, evT_mono hΦ t ε (fun k ε1 h F1 H1 fp1 g1 st1 => ?_) h⟩
    cases k with
    | true => exact iteT (h F1 H1 fp1 g1 st1)
    | false => exact iteF ⟨Z, F1, ε1, fp1, g1.hi, st1, evT_mono hΦ u ε1 (fun k ε2 h F2 H2 fp2 g2 st2 => h F2 H2 fp2 (g1.trans g2) st2) h⟩
end
/-! ### targets -/
def sameOff (σ σ' : L2.St) (ls : List Nat) : Prop := σ'.length = σ.length ∧ ∀ j, j ∉ ls → σ'[j]? = σ[j]?
/-- what a target's store comes to -/
def gTe (t : Tg) : TG := fun v σ H Q => ∃ Z F ε fp d ε1, HI Z F H ∧ StR Z F H σ ε fp ∧ Rp Z F v d ∧ tgS t d ε = some ε1 ∧
  ∀ σ' fp', StR Z F H σ' ε1 fp' → (∀ b, Mf fp' b → Mf fp b) → sameOff σ σ' t.slots → Q σ' H
def gTs (ts : Tgs) : TGs := fun vs σ H Q => ∃ Z F ε fp ds ε1, HI Z F H ∧ StR Z F H σ ε fp ∧ RpA Z F vs ds ∧ tgsS ts ds ε = some ε1 ∧
  ∀ σ' fp', StR Z F H σ' ε1 fp' → (∀ b, Mf fp' b → Mf fp b) → sameOff σ σ' ts.slots → Q σ' H
theorem _root_.L2.PG.imp {X : Cx} {e : Expr} {t t' : TG} (h : PG X e t) (k : ∀ v σ H Q, t' v σ H Q → t v σ H Q) : PG X e t' := ⟨fun pins s σ H v u Q I r q => h.run pins s σ H v u Q I r (k v σ H Q q)⟩
theorem _root_.L2.PGs.imp {X : Cx} {e : List Expr} {t t' : TGs} (h : PGs X e t) (k : ∀ v σ H Q, t' v σ H Q → t v σ H Q) : PGs X e t' := ⟨fun pins s σ H v u Q I r q => h.run pins s σ H v u Q I r (k v σ H Q q)⟩
theorem _root_.L2.PI.imp {X : Cx} {tg e : Expr} {t t' : TI} (h : PI X tg e t) (k : ∀ σ H R, t' σ H R → t σ H R) : PI X tg e t' := ⟨fun pins s σ H R I q => h.run pins s σ H R I (k σ H R q)⟩
section
variable {X : Cx} {x : Expr} {pos : Pos} {es : List Expr}
theorem ge_nm {i : Nat} {n : Str} (hN : X.N.Nodup) (hi : X.N[i]? = some n) (hx : Loc X.env.scope n) (hf : X.fn n = true ∨ X.env.scope.names.lookup n = some .local) : PG X (.Name n pos) (gTe (.nm i)) :=
  (pg_name hN hi hx hf).imp fun v σ H Q ⟨Z, F, ε, fp, d, ε1, hi', st, r, e, k⟩ => by
    simp only [tgS] at e
    cases e
    refine k _ _ (st.setSh i r) (fun b hb => ?_) ⟨List.length_set, fun j hj => ?_⟩
    · rcases Mf.set hb with z | z
      · exact z
      · cases z
    · rw [List.getElem?_set_ne (fun (z : i = j) => hj (by simp [Tg.slots, z]))]
theorem gs_nil : PGs X [] (gTs .nil) :=
  pgs_nil.imp fun vs σ H Q ⟨Z, F, ε, fp, ds, ε1, hi', st, r, e, k⟩ => by
    cases ds with
    | nil => cases r; simp only [tgsS] at e; cases e; exact ⟨rfl, k σ fp st (fun _ h => h) ⟨rfl, fun _ _ => rfl⟩⟩
    | cons d ds => simp [tgsS] at e
theorem gs_cons {t : Tg} {ts : Tgs} (h1 : PG X x (gTe t)) (h2 : PGs X es (gTs ts)) (hs : (assignEach (x :: es) X.env).map (·.2) = assign x X.env :: (assignEach es X.env).map (·.2)) : PGs X (x :: es) (gTs (.cons t ts)) :=
  (pgs_cons h1 h2 hs).imp fun vs σ H Q ⟨Z, F, ε, fp, ds, ε1, hi', st, r, e, k⟩ => by
    cases r with
    | nil => simp [tgsS] at e
    | cons rh rt =>
      simp only [tgsS] at e
      split at e
      · rename_i ε' e'
        refine ⟨_, _, rfl, Z, F, ε, fp, _, ε', hi', st, rh, e', fun σ1 fp1 st1 m1 o1 => ?_⟩
        refine ⟨Z, F, ε', fp1, _, ε1, hi', st1, rt, e, fun σ2 fp2 st2 m2 o2 => ?_⟩
        refine k σ2 fp2 st2 (fun b hb => m1 b (m2 b hb)) ⟨o2.1.trans o1.1, fun j hj => ?_⟩
        simp only [Tgs.slots, List.mem_append, not_or] at hj
        rw [o2.2 j hj.2, o1.2 j hj.1]
      · cases e
theorem tgsS_len : ∀ (ts : Tgs) (ds : List PyData) {ε ε1 : Env}, tgsS ts ds ε = some ε1 → ds.length = (match ts with | .nil => 0 | .cons _ r => ds.length)
  | .nil, [], _, _, _ => rfl
  | .nil, _ :: _, _, _, h => by simp [tgsS] at h
  | .cons _ _, _, _, _, _ => rfl
def Tgs.len : Tgs → Nat
  | .nil => 0
  | .cons _ r => r.len + 1
theorem tgsS_length : ∀ (ts : Tgs) (ds : List PyData) {ε ε1 : Env}, tgsS ts ds ε = some ε1 → ds.length = ts.len
  | .nil, [], _, _, _ => rfl
  | .nil, _ :: _, _, _, h => by simp [tgsS] at h
  | .cons t r, [], _, _, h => by simp [tgsS] at h
  | .cons t r, d :: ds, _, _, h => by
    simp only [tgsS] at h
    split at h
    · rw [List.length_cons, tgsS_length r ds h, Tgs.len]
    · cases h
theorem ge_tp {ts : Tgs} {k : Nat} (hc : X.calm = true) (h : PGs X es (gTs ts)) (hn : (assignEach es X.env).length = ts.len) (hst : (assignEach es X.env).findIdx? (·.1) = none) : PG X (.Tuple es k pos) (gTe (.tp ts)) :=
  (pg_tup hc h hn hst).imp fun v σ H Q ⟨Z, F, ε, fp, d, ε1, hi', st, r, e, k⟩ => by
    cases d <;> simp only [tgS] at e <;> try (cases e; done)
    cases r with
    | tup hA rA =>
      exact ⟨_, _, rfl, .of (hi'.sub _ _ hA), by rw [rA.length]; exact tgsS_length _ _ e, Z, F, ε, fp, _, ε1, hi', st, rA, e, fun σ' fp' a b c => k σ' fp' a b c⟩
end
/-! ### what is walked -/
def Yl (Z : Zs) (J : It) (xs : List PyData) (F : Hp) : Prop := ∀ F2 H2, (∀ a o, F a = some o → F2 a = some o) → HI Z F2 H2 → ∀ i,
  (i < xs.length → J.go i H2 ∧ ∀ x H3, J.yld i H2 x H3 → ∃ F3 d, Gr Z M0 F2 H2 M0 F3 H3 ∧ xs[i]? = some d ∧ Rp Z F3 x d) ∧ (xs.length ≤ i → J.stop i H2)
section
variable {Z : Zs} {F H : Hp} {K : PySem.W.Frag} {a b : Addr} {vs ws : List V} {ds es : List PyData}
theorem yl_list (h : F a = some (.lst vs)) (r : RpA Z F vs ds) : Yl Z (Itl K a) ds F := fun F2 H2 hF hi i => by
  have hA : SqL K H2 a vs := .of (hi.sub _ _ (hF _ _ h))
  refine ⟨fun hlt => ?_, fun hge => ⟨vs, hA, by rw [r.length]; exact hge⟩⟩
  obtain ⟨v, e1, rv⟩ := r.get (List.getElem?_eq_getElem hlt)
  refine ⟨⟨vs, v, hA, e1⟩, fun x H3 ⟨e2, y⟩ => ?_⟩
  subst e2
  have e3 := y vs hA
  rw [e1] at e3
  cases e3
  exact ⟨F2, _, Gr.refl hi, List.getElem?_eq_getElem hlt, rv.mono hF⟩
theorem yl_tup (h : F a = some (.tup vs)) (r : RpA Z F vs ds) : Yl Z (Itt K a) ds F := fun F2 H2 hF hi i => by
  have hA : SqT K H2 a vs := .of (hi.sub _ _ (hF _ _ h))
  refine ⟨fun hlt => ?_, fun hge => ⟨vs, hA, by rw [r.length]; exact hge⟩⟩
  obtain ⟨v, e1, rv⟩ := r.get (List.getElem?_eq_getElem hlt)
  refine ⟨⟨vs, v, hA, e1⟩, fun x H3 ⟨e2, y⟩ => ?_⟩
  subst e2
  have e3 := y vs hA
  rw [e1] at e3
  cases e3
  exact ⟨F2, _, Gr.refl hi, List.getElem?_eq_getElem hlt, rv.mono hF⟩
theorem yl_rng {lo : Int} {n : Nat} : Yl Z (Itr lo n) ((List.range n).map fun (i : Nat) => .int (lo + i)) F := fun F2 H2 hF hi i => by
  rw [List.length_map, List.length_range]
  refine ⟨fun hlt => ⟨hlt, fun x H3 ⟨e2, e3⟩ => ?_⟩, fun h => h⟩
  subst e2 e3
  exact ⟨F2, .int (lo + i), Gr.refl hi, by rw [List.getElem?_map, List.getElem?_range hlt]; rfl, .int _⟩
theorem yl_rngC {lo c : Int} {n : Nat} : Yl Z (Itc lo c n) ((List.range n).map fun (i : Nat) => .int (lo + i * c)) F := fun F2 H2 hF hi i => by
  rw [List.length_map, List.length_range]
  refine ⟨fun hlt => ⟨hlt, fun x H3 ⟨e2, e3⟩ => ?_⟩, fun h => h⟩
  subst e2 e3
  exact ⟨F2, .int (lo + i * c), Gr.refl hi, by rw [List.getElem?_map, List.getElem?_range hlt]; rfl, .int _⟩
theorem pair_new {F2 H2 : Hp} {T : Addr} {v w : V} {d e : PyData} (hi : HI Z F2 H2) (hT : H2 T = none) (rv : Rp Z F2 v d) (rw' : Rp Z F2 w e) : ∃ F3, Gr Z M0 F2 H2 M0 F3 (upd H2 T (.tup [v, w])) ∧ Rp Z F3 (.ref T) (.tuple [d, e]) := by
  have g := hi.layS (o := .tup [v, w]) hT
  exact ⟨_, g, .tup upd_same (.cons (g.rp rv) (.cons (g.rp rw') .nil))⟩
theorem yl_enum (h : F a = some (.lst vs)) (r : RpA Z F vs ds) : Yl Z (Ite K a) (ds.zipIdx.map fun p => .tuple [.int p.2, p.1]) F := fun F2 H2 hF hi i => by
  have hA : SqL K H2 a vs := .of (hi.sub _ _ (hF _ _ h))
  rw [List.length_map, List.length_zipIdx]
  refine ⟨fun hlt => ?_, fun hge => ⟨vs, hA, by rw [r.length]; exact hge⟩⟩
  obtain ⟨v, e1, rv⟩ := r.get (List.getElem?_eq_getElem hlt)
  refine ⟨⟨vs, v, hA, e1⟩, fun x H3 ⟨T, w, ex, hT, e2, y⟩ => ?_⟩
  subst e2 ex
  have e3 := y vs hA
  rw [e1] at e3
  cases e3
  obtain ⟨F3, g3, r3⟩ := pair_new hi hT (.int (i : Nat)) (rv.mono hF)
  exact ⟨F3, _, g3, by rw [List.getElem?_map, List.getElem?_zipIdx, List.getElem?_eq_getElem hlt]; simp, r3⟩
theorem zip_at {i : Nat} (h1 : i < ds.length) (h2 : i < es.length) : (List.zipWith (fun x y => PyData.tuple [x, y]) ds es)[i]? = some (.tuple [ds[i], es[i]]) := by
  rw [List.getElem?_zipWith, List.getElem?_eq_getElem h1, List.getElem?_eq_getElem h2]
theorem yl_zipL (h : F a = some (.lst vs)) (r : RpA Z F vs ds) (h' : F b = some (.lst ws)) (r' : RpA Z F ws es) : Yl Z (Itz K a b) (List.zipWith (fun x y => .tuple [x, y]) ds es) F := fun F2 H2 hF hi i => by
  have hA : SqL K H2 a vs := .of (hi.sub _ _ (hF _ _ h))
  have hB : SqL K H2 b ws := .of (hi.sub _ _ (hF _ _ h'))
  rw [List.length_zipWith]
  refine ⟨fun hlt => ?_, fun hge => ⟨vs, ws, hA, hB, by rw [r.length, r'.length]; omega⟩⟩
  have l1 : i < ds.length := by omega
  have l2 : i < es.length := by omega
  obtain ⟨v, e1, rv⟩ := r.get (List.getElem?_eq_getElem l1)
  obtain ⟨w, e1', rw'⟩ := r'.get (List.getElem?_eq_getElem l2)
  refine ⟨⟨vs, ws, v, w, hA, hB, e1, e1'⟩, fun x H3 ⟨T, v2, w2, ex, hT, e2, y, y'⟩ => ?_⟩
  subst e2 ex
  have e3 := y vs hA
  rw [e1] at e3
  cases e3
  have e4 := y' ws hB
  rw [e1'] at e4
  cases e4
  obtain ⟨F3, g3, r3⟩ := pair_new hi hT (rv.mono hF) (rw'.mono hF)
  exact ⟨F3, _, g3, zip_at l1 l2, r3⟩
theorem yl_zipT (h : F a = some (.tup vs)) (r : RpA Z F vs ds) (h' : F b = some (.tup ws)) (r' : RpA Z F ws es) : Yl Z (RZ.ItzT K a b) (List.zipWith (fun x y => .tuple [x, y]) ds es) F := fun F2 H2 hF hi i => by
  have hA : SqT K H2 a vs := .of (hi.sub _ _ (hF _ _ h))
  have hB : SqT K H2 b ws := .of (hi.sub _ _ (hF _ _ h'))
  rw [List.length_zipWith]
  refine ⟨fun hlt => ?_, fun hge => ⟨vs, ws, hA, hB, by rw [r.length, r'.length]; omega⟩⟩
  have l1 : i < ds.length := by omega
  have l2 : i < es.length := by omega
  obtain ⟨v, e1, rv⟩ := r.get (List.getElem?_eq_getElem l1)
  obtain ⟨w, e1', rw'⟩ := r'.get (List.getElem?_eq_getElem l2)
  refine ⟨⟨vs, ws, v, w, hA, hB, e1, e1'⟩, fun x H3 ⟨T, v2, w2, ex, hT, e2, y, y'⟩ => ?_⟩
  subst e2 ex
  have e3 := y vs hA
  rw [e1] at e3
  cases e3
  have e4 := y' ws hB
  rw [e1'] at e4
  cases e4
  obtain ⟨F3, g3, r3⟩ := pair_new hi hT (rv.mono hF) (rw'.mono hF)
  exact ⟨F3, _, g3, zip_at l1 l2, r3⟩
end
def EQI (Z : Zs) (F H : Hp) (fp : Nat → List Addr) (σ : L2.St) (k : Ik) (R : It → Hp → Prop) (ds : List PyData) (ε' : Env) : Prop :=
  ∃ xs, itS k ds = some xs ∧ ∀ F' H' fp' J, Gr Z (Mf fp) F H (Mf fp') F' H' → StR Z F' H' σ ε' fp' → Yl Z J xs F' → R J H'
def tIt (Φ : Tab) (k : Ik) (its : Cs) : TI := fun σ H R => ∃ Z F ε fp, HI Z F H ∧ StR Z F H σ ε fp ∧ evs Φ its ε (EQI Z F H fp σ k R)
section
variable {X : Cx} {x y tg : Expr} {a b : C} {pos p : Pos} {es elts : List Expr} {its : Cs} {kk : Nat} {tp : Pos}
/-- a list or a tuple walked -/
def iSeq (K : PySem.W.Frag) (tl : TE) : TI := fun σ H R => tl σ H fun x H1 => ∃ a, x = .ref a ∧ ((∃ xs, SqL K H1 a xs ∧ R (Itl K a) H1) ∨ ∃ xs, SqT K H1 a xs ∧ R (Itt K a) H1)
theorem pi_seq {l : Expr} {tl : TE} (hl : PE X l tl) : PI X tg l (iSeq X.K tl) := by
  refine ⟨fun pins s σ H R I h => thn (hl.run pins s σ H _ I h) fun v s1 ⟨x, H1, I1, r1, a, e, q1⟩ => ?_⟩
  subst e
  obtain rfl : v = .ref a := r1
  have new : ∀ b, b ∈ [s1.heap.objs.size] → FpOk X pins H1 b := fun b hb => by
    rw [List.mem_singleton.mp hb]
    exact I1.fpOk (Nat.le_refl _) (I1.hok.fresh (Nat.le_refl _))
  rcases q1 with ⟨xs, hq, q⟩ | ⟨xs, hq, q⟩
  · obtain ⟨us, _, pl, _⟩ := I1.list hq
    exact wpAny_pyIter_list pl.isList ⟨_, [s1.heap.objs.size], _, _, H1, rfl, I1.kept (t' := s1.toks) fun b o e => Heap.get?_push_of_some _ e, turn_list a _, ⟨_, Heap.get?_push_size _ rfl, rfl, rfl⟩, new, q⟩
  · obtain ⟨us, _, pl, _⟩ := I1.tuple hq
    exact wpAny_pyIter_tuple (show s1.heap.IsTuple a us.toArray from pl) ⟨_, [s1.heap.objs.size], _, _, H1, rfl, I1.kept (t' := s1.toks) fun b o e => Heap.get?_push_of_some _ e, turn_tuple a _, ⟨_, Heap.get?_push_size _ rfl, rfl, rfl⟩, new, q⟩
include hΦ
theorem ie_seq (hs : shC a = true) (ha : PE X x (tCe Φ a)) : PI X tg x (tIt Φ .seq (.cons a .nil)) :=
  (pi_seq ha).imp fun σ H R ⟨Z, F, ε, fp, hi, st, h⟩ => by
    simp only [evs] at h
    refine ⟨Z, F, ε, fp, hi, st, ev_mono hΦ a ε (fun d ε1 h v F1 H1 fp1 g1 st1 l1 _ => ?_) h⟩
    obtain ⟨xs, e, k⟩ := h
    obtain ⟨F2, g2, st2, r2, _⟩ := (l1.fz hs).go g1 st1
    cases d <;> simp only [itS] at e <;> try (cases e; done)
    · cases e
      cases r2 with
      | lst hA rA => exact ⟨_, rfl, .inl ⟨_, .of (g2.hi.sub _ _ hA), k F2 H1 fp1 _ g2 st2 (yl_list hA rA)⟩⟩
    · cases e
      cases r2 with
      | tup hA rA => exact ⟨_, rfl, .inr ⟨_, .of (g2.hi.sub _ _ hA), k F2 H1 fp1 _ g2 st2 (yl_tup hA rA)⟩⟩
theorem rng_cases {ds xs : List PyData} (e : itS .rng ds = some xs) : (∃ n, ds = [.int n] ∧ (-(4611686018427387904) ≤ n ∧ n < 4611686018427387904) ∧ xs = (List.range n.toNat).map fun (i : Nat) => .int i) ∨
    ∃ m n, ds = [.int m, .int n] ∧ ((-(4611686018427387904) ≤ m ∧ m < 4611686018427387904) ∧ (-(4611686018427387904) ≤ n ∧ n < 4611686018427387904)) ∧ xs = rngD m n := by
  unfold itS at e
  split at e <;> first | contradiction | (split at e <;> first | (cases e; done) | (cases e; exact .inl ⟨_, rfl, by assumption, rfl⟩) | (cases e; exact .inr ⟨_, _, rfl, by assumption, rfl⟩)) | (cases e; done)
theorem ie_rng1 (hs : shC a = true) (hg : Gl X "range") (hm : X.mg "range" = none) (ha : PE X x (tCe Φ a)) (he : starEach [x] X.env = (false, eval x X.env) :: starEach [] X.env) : PI X tg (.Call (.Name "range" p) [x] [] pos) (tIt Φ .rng (.cons a .nil)) :=
  (pi_range1 hg hm (cs_cons hΦ ha cs_nil he) (by rw [he]; rfl)).imp fun σ H R ⟨Z, F, ε, fp, hi, st, h⟩ => by
    refine cs_shared hΦ (by simp [shCs, hs]) hi st (evs_len hΦ _ ε h) fun ds ε1 vs F1 H1 fp1 ⟨hl, xs, e, k⟩ g1 st1 r1 => ?_
    rcases rng_cases hΦ e with ⟨n, rfl, hn, rfl⟩ | ⟨m, n, rfl, _⟩
    · cases r1 with
      | cons q1 q2 =>
        cases q2
        obtain rfl := q1.intv
        refine ⟨n, rfl, hn.1, hn.2, k F1 H1 fp1 _ g1 st1 ?_⟩
        have := yl_rng (Z := Z) (F := F1) (lo := 0) (n := n.toNat)
        simpa using this
    · simp [Cs.len] at hl
theorem ie_rng2 (hs : shC a = true) (hs' : shC b = true) (hg : Gl X "range") (hm : X.mg "range" = none) (ha : PE X x (tCe Φ a)) (hb : PE X y (tCe Φ b)) (he : starEach [x, y] X.env = (false, eval x X.env) :: starEach [y] X.env) (he' : starEach [y] X.env = (false, eval y X.env) :: starEach [] X.env) :
    PI X tg (.Call (.Name "range" p) [x, y] [] pos) (tIt Φ .rng (.cons a (.cons b .nil))) :=
  (pi_range2 hg hm (cs_cons hΦ ha (cs_cons hΦ hb cs_nil he') he) (by rw [he, he']; rfl) (by rw [he']; rfl)).imp fun σ H R ⟨Z, F, ε, fp, hi, st, h⟩ => by
    refine cs_shared hΦ (by simp [shCs, hs, hs']) hi st (evs_len hΦ _ ε h) fun ds ε1 vs F1 H1 fp1 ⟨hl, xs, e, k⟩ g1 st1 r1 => ?_
    rcases rng_cases hΦ e with ⟨n, rfl, _⟩ | ⟨m, n, rfl, hn, rfl⟩
    · simp [Cs.len] at hl
    · cases r1 with
      | cons q1 q2 =>
        cases q2 with
        | cons q2 q3 =>
          cases q3
          obtain rfl := q1.intv
          obtain rfl := q2.intv
          exact ⟨m, n, rfl, ⟨hn.1.1, hn.1.2, hn.2.1, hn.2.2⟩, k F1 H1 fp1 _ g1 st1 (yl_rng (lo := m) (n := (n - m).toNat))⟩
theorem ie_rng3 {c : C} {z : Expr} (hs : shC a = true) (hs' : shC b = true) (hs'' : shC c = true) (hg : Gl X "range") (hm : X.mg "range" = none) (ha : PE X x (tCe Φ a)) (hb : PE X y (tCe Φ b)) (hc : PE X z (tCe Φ c)) (he : starEach [x, y, z] X.env = (false, eval x X.env) :: starEach [y, z] X.env) (he' : starEach [y, z] X.env = (false, eval y X.env) :: starEach [z] X.env) (he'' : starEach [z] X.env = (false, eval z X.env) :: starEach [] X.env) :
    PI X tg (.Call (.Name "range" p) [x, y, z] [] pos) (tIt Φ .rst (.cons a (.cons b (.cons c .nil)))) :=
  (pi_range3 hg hm (cs_cons hΦ ha (cs_cons hΦ hb (cs_cons hΦ hc cs_nil he'') he') he) he (by rw [he', he'']; rfl)).imp fun σ H R ⟨Z, F, ε, fp, hi, st, h⟩ => by
    refine cs_shared hΦ (by simp [shCs, hs, hs', hs'']) hi st (evs_len hΦ _ ε h) fun ds ε1 vs F1 H1 fp1 ⟨hl, xs, e, k⟩ g1 st1 r1 => ?_
    have : ∃ i j l, ds = [.int i, .int j, .int l] ∧ stOk i j l ∧ xs = stpD i j l := by
      unfold itS at e
      split at e <;> first | contradiction | (split at e <;> first | (cases e; done) | (cases e; exact ⟨_, _, _, rfl, by assumption, rfl⟩)) | (cases e; done)
    obtain ⟨i, j, l, rfl, hk, rfl⟩ := this
    cases r1 with
    | cons q1 q2 =>
      cases q2 with
      | cons q2 q3 =>
        cases q3 with
        | cons q3 q4 =>
          cases q4
          obtain rfl := q1.intv
          obtain rfl := q2.intv
          obtain rfl := q3.intv
          exact ⟨i, j, l, _, rfl, hk, k F1 H1 fp1 _ g1 st1 yl_rngC⟩
theorem ie_enum (hs : shC a = true) (hg : Gl X "enumerate") (hm : X.mg "enumerate" = none) (ha : PE X x (tCe Φ a)) (he : starEach [x] X.env = (false, eval x X.env) :: starEach [] X.env) :
    PI X (.Tuple elts kk tp) (.Call (.Name "enumerate" p) [x] [] pos) (tIt Φ .enum (.cons a .nil)) :=
  (pi_enum hg hm (cs_cons hΦ ha cs_nil he) (by rw [he]; rfl)).imp fun σ H R ⟨Z, F, ε, fp, hi, st, h⟩ => by
    refine cs_shared hΦ (by simp [shCs, hs]) hi st h fun ds ε1 vs F1 H1 fp1 ⟨xs, e, k⟩ g1 st1 r1 => ?_
    have : ∃ es, ds = [.list es] ∧ xs = es.zipIdx.map fun p => .tuple [.int p.2, p.1] := by
      unfold itS at e
      split at e <;> first | contradiction | (cases e; done) | (cases e; exact ⟨_, rfl, rfl⟩)
    obtain ⟨es, rfl, rfl⟩ := this
    cases r1 with
    | cons q1 q2 =>
      cases q2
      cases q1 with
      | lst hA rA => exact ⟨_, _, rfl, .of (g1.hi.sub _ _ hA), k F1 H1 fp1 _ g1 st1 (yl_enum hA rA)⟩
theorem ie_zip (hs : shC a = true) (hs' : shC b = true) (hg : Gl X "zip") (hm : X.mg "zip" = none) (ha : PE X x (tCe Φ a)) (hb : PE X y (tCe Φ b)) (he : starEach [x, y] X.env = (false, eval x X.env) :: starEach [y] X.env) (he' : starEach [y] X.env = (false, eval y X.env) :: starEach [] X.env) :
    PI X (.Tuple elts kk tp) (.Call (.Name "zip" p) [x, y] [] pos) (tIt Φ .zip (.cons a (.cons b .nil))) :=
  (RZ.pi_zipA hg hm (cs_cons hΦ ha (cs_cons hΦ hb cs_nil he') he) he (by rw [he']; rfl)).imp fun σ H R ⟨Z, F, ε, fp, hi, st, h⟩ => by
    refine cs_shared hΦ (by simp [shCs, hs, hs']) hi st h fun ds ε1 vs F1 H1 fp1 ⟨xs, e, k⟩ g1 st1 r1 => ?_
    have : (∃ d1 d2, ds = [.list d1, .list d2] ∧ xs = List.zipWith (fun x y => .tuple [x, y]) d1 d2) ∨ ∃ d1 d2, ds = [.tuple d1, .tuple d2] ∧ xs = List.zipWith (fun x y => .tuple [x, y]) d1 d2 := by
      unfold itS at e
      split at e <;> first | contradiction | (cases e; done) | (cases e; exact .inl ⟨_, _, rfl, rfl⟩) | (cases e; exact .inr ⟨_, _, rfl, rfl⟩)
    rcases this with ⟨d1, d2, rfl, rfl⟩ | ⟨d1, d2, rfl, rfl⟩
    · cases r1 with
      | cons q1 q2 =>
        cases q2 with
        | cons q2 q3 =>
          cases q3
          cases q1 with
          | lst hA rA =>
            cases q2 with
            | lst hB rB => exact ⟨_, _, _, _, rfl, .inl ⟨.of (g1.hi.sub _ _ hA), .of (g1.hi.sub _ _ hB), k F1 H1 fp1 _ g1 st1 (yl_zipL hA rA hB rB)⟩⟩
    · cases r1 with
      | cons q1 q2 =>
        cases q2 with
        | cons q2 q3 =>
          cases q3
          cases q1 with
          | tup hA rA =>
            cases q2 with
            | tup hB rB => exact ⟨_, _, _, _, rfl, .inr ⟨.of (g1.hi.sub _ _ hA), .of (g1.hi.sub _ _ hB), k F1 H1 fp1 _ g1 st1 (yl_zipT hA rA hB rB)⟩⟩
end
/-! ### list comprehensions -/
theorem wipe_off {σ σ2 : L2.St} {ls vs : List Nat} (h : sameOff (L2.wipe σ vs) σ2 ls) (hs : ∀ i, i ∈ ls → i ∈ vs) : L2.wipe σ2 vs = L2.wipe σ vs := by
  have hl : σ2.length = σ.length := by rw [h.1, wipe_length]
  apply List.ext_getElem?
  intro j
  by_cases hj : j ∈ vs
  · by_cases hlt : j < σ.length
    · rw [wipe_in hj hlt, wipe_in hj (by omega)]
    · rw [List.getElem?_eq_none (by rw [wipe_length]; omega), List.getElem?_eq_none (by rw [wipe_length]; omega)]
  · rw [wipe_out' hj, wipe_out' hj, h.2 j (fun z => hj (hs j z)), wipe_out' hj]
/-- the new list one item longer -/
theorem grow_at {Z : Zs} {M1 M : Ms} {F1 H1 F H : Hp} {D : Addr} {o : HO} (g : Gr Z M1 F1 H1 M F H) (h1 : H1 D = none) (hd : D ∉ Z.dom) (hF : F D = none) : Gr Z M1 F1 H1 M F (upd H D o) := by
  refine ⟨fun b u n m e => ?_, fun b e => ?_, g.fro, g.new, g.own, ⟨fun b u e => ?_, g.hi.zf, fun b hb => ?_, ?_⟩⟩
  · rw [upd_ne (ne_of_none e h1)]; exact g.keep b u n m e
  · by_cases hb : b = D
    · rw [hb]; exact h1
    · rw [upd_ne hb] at e; exact g.there b e
  · rw [upd_ne (ne_of_none e hF)]; exact g.hi.sub b u e
  · obtain ⟨u, e⟩ := g.hi.zh b hb
    rw [upd_ne (fun (z : b = D) => hd (z ▸ hb))]
    exact ⟨u, e⟩
  · exact Z.loc H _ (fun b hb => (upd_ne (fun (z : b = D) => hd (z ▸ hb))).symm) g.hi.zok
theorem comp_core {k : Ik} {its : Cs} {t : Tg} {cond : T} {elt : C} {vs : List Nat} (hΦ : Φ.Mono) (hts : ∀ i, i ∈ t.slots → i ∈ vs) (hel : shC elt = true) {σ : L2.St} {H : Hp} {Q : VK} (h : tCe Φ (.comp vs t k its cond elt) σ H Q) :
    tLc (tIt Φ k its) (gTe t) (tTe Φ cond) (tCe Φ elt) vs σ H Q := by
  obtain ⟨Z, F, ε, fp, hi, st, h⟩ := h
  simp only [ev] at h
  refine ⟨Z, F, ε, fp, hi, st, evs_mono hΦ its ε (fun ds ε1 h => ?_) h⟩
  obtain ⟨_, h⟩ := h
  split at h
  · rename_i xs exs
    refine ⟨xs, exs, fun F1 H1 fp1 J g1 st1 yl D hD => ?_⟩
    have nd := g1.hi.nodom hD
    have nF := g1.hi.fresh hD
    refine ⟨fun i m Hc => i ≤ xs.length ∧ m = xs.length - i ∧ ∃ Fc εc fpc vsc acc, Gr Z (Mf fp1) F1 H1 (Mf fpc) Fc Hc ∧ StR Z Fc Hc σ εc fpc ∧ Fc D = none ∧ ¬ Mf fpc D ∧ Hc D = some (.lst vsc) ∧ RpA Z Fc vsc acc ∧
      compL (fun d ε0 q => match tgS t d (wipeE ε0 vs) with
        | some ε1 => evT Φ cond ε1 fun b ε2 => if b = true then ev Φ elt ε2 fun y ε3 => q (some y) (backE ε0 ε3 vs) else q none (backE ε0 ε2 vs)
        | none => False) (xs.drop i) acc εc (fun ys ε'' => EQ Z F H fp σ (.comp vs t k its cond elt) Q (.list ys) ε''),
      ⟨_, Nat.zero_le _, rfl, F1, ε1, fp1, [], [], (g1.hi.lay hD).lift, st1.gr0 (g1.hi.lay hD), nF, st1.noM hD, upd_same, .nil, h⟩, ?_⟩
    rintro i m Hc ⟨hix, rfl, Fc, εc, fpc, vsc, acc, gc, stc, fD, mD, hDc, rc, hc⟩
    by_cases hlt : i < xs.length
    · obtain ⟨go, yld⟩ := (yl Fc Hc gc.fro gc.hi i).1 hlt
      refine .inr ⟨go, fun H' => i + 1 ≤ xs.length ∧ ∃ Fc εc fpc vsc acc, Gr Z (Mf fp1) F1 H1 (Mf fpc) Fc H' ∧ StR Z Fc H' σ εc fpc ∧ Fc D = none ∧ ¬ Mf fpc D ∧ H' D = some (.lst vsc) ∧ RpA Z Fc vsc acc ∧
        compL (fun d ε0 q => match tgS t d (wipeE ε0 vs) with
        | some ε1 => evT Φ cond ε1 fun b ε2 => if b = true then ev Φ elt ε2 fun y ε3 => q (some y) (backE ε0 ε3 vs) else q none (backE ε0 ε2 vs)
        | none => False) (xs.drop (i + 1)) acc εc (fun ys ε'' => EQ Z F H fp σ (.comp vs t k its cond elt) Q (.list ys) ε''),
        fun H' ⟨h1, h2⟩ => ⟨xs.length - (i + 1), by omega, h1, rfl, h2⟩, fun x H2 hy => ?_⟩
      obtain ⟨F2, d, g2, ed, rd⟩ := yld x H2 hy
      have gc2 := gc.trans g2.lift
      have st2 := stc.gr0 g2
      have fD2 : F2 D = none := g2.free fD (fun z => z) hDc
      have hD2 : H2 D = some (.lst vsc) := g2.keep D _ nd (fun z => z) hDc
      have edr : xs.drop i = d :: xs.drop (i + 1) := by
        obtain ⟨h1, h2⟩ := List.getElem?_eq_some_iff.mp ed
        rw [List.drop_eq_getElem_cons h1, h2]
      rw [edr, compL] at hc
      split at hc
      · rename_i ε3 et
        obtain ⟨fpw, stw, in1, out1⟩ := StR.wipe vs st2
        have subw : ∀ b, Mf fpw b → Mf fpc b := fun b ⟨j, hj⟩ => by
          by_cases hjv : j ∈ vs
          · rw [in1 j hjv] at hj; cases hj
          · rw [out1 j hjv] at hj; exact ⟨j, hj⟩
        refine ⟨Z, F2, wipeE εc vs, fpw, d, ε3, g2.hi, stw, rd, et, fun σ3 fp3 st3 m3 o3 => ⟨wipe_off o3 hts, ?_⟩⟩
        have len3 : σ3.length = σ.length := by rw [o3.1, wipe_length]
        have at3 : ∀ j, j ∉ vs → σ3[j]? = σ[j]? := fun j hj => by rw [o3.2 j (fun z => hj (hts j z)), wipe_out' hj]
        have gw3 : Gr Z (Mf fpw) F2 H2 (Mf fp3) F2 H2 := Gr.less g2.hi m3
        have mDw : ¬ Mf fpw D := fun z => mD (subw D z)
        refine ⟨Z, F2, ε3, fp3, g2.hi, st3, evT_mono hΦ cond ε3 (fun b ε4 hb F4 H4 fp4 g4 st4 => ?_) hc⟩
        have gw4 := gw3.trans g4
        have hD4 : H4 D = some (.lst vsc) := gw4.keep D _ nd mDw hD2
        have fD4 : F4 D = none := gw4.free fD2 mDw hD2
        cases b with
        | true =>
          refine iteT ⟨Z, F4, ε4, fp4, g4.hi, st4, ev_mono hΦ elt ε4 (fun y ε5 hy5 v F5 H5 fp5 g5 st5 l5 _ => ?_) hb⟩
          obtain ⟨F6, g6, st6, r6, k6⟩ := (l5.fz hel).go g5 st5
          have gw6 := gw4.trans g6
          obtain ⟨fpb, stb, gb⟩ := st2.back in1 out1 gw6 st6 at3 len3
          have hD5 : H5 D = some (.lst vsc) := gw6.keep D _ nd mDw hD2
          have fD6 : F6 D = none := gw6.free fD2 mDw hD2
          have mDb : ¬ Mf fpb D := gb.noM mD hD2
          refine ⟨vsc, hD5, by rw [rc.length]; exact line_lt hy5.1, by omega, F6, _, fpb, vsc ++ [v], acc ++ [y], grow_at (gc2.trans gb) hD nd fD6, stb.grow (fun _ _ e => e) (fun a ha => ?_), fD6, mDb, upd_same, (gb.rpa (g2.rpa rc)).append (.cons r6 .nil), hy5.2⟩
          obtain ⟨_, fa, _⟩ := stb.ownM ha
          exact ⟨fa, upd_ne fun (z : a = D) => mDb (z ▸ ha)⟩
        | false =>
          refine iteF ⟨by omega, ?_⟩
          obtain ⟨fpb, stb, gb⟩ := st2.back in1 out1 gw4 st4 at3 len3
          refine ⟨F4, _, fpb, vsc, acc, gc2.trans gb, stb, fD4, fun z => gb.noM mD hD2 z, hD4, gw4.rpa (g2.rpa rc), hb⟩
      · exact hc.elim
    · have e : i = xs.length := by omega
      subst e
      refine .inl ⟨(yl Fc Hc gc.fro gc.hi _).2 (Nat.le_refl _), ?_⟩
      rw [List.drop_length, compL] at hc
      have gt := g1.trans gc
      have hN : RdN Z H (Mf fpc) Fc Hc (.ref D) (.list acc) := ⟨D, _, rfl, g1.there D hD, mD, fD, nd, hDc, rc⟩
      exact hc _ Fc Hc fpc gt stc (.of_new rfl rfl hN) (.inr hN.old)
  · exact h.elim
end Ev
/-! Ev9: statements -/
namespace Ev
open PySem PySem.Spec PyProof.Rows L2
variable {Φ : Tab} (hΦ : Φ.Mono)
def PoR (Z : Zs) (F H : Hp) (fp : Nat → List Addr) (D : Ends) : Po where
  nx := fun ε' => ∀ σ' F' H' fp', Gr Z (Mf fp) F H (Mf fp') F' H' → StR Z F' H' σ' ε' fp' → D.nx σ' H'
  rt := fun d _ => ∀ v F' H', Gr Z (Mf fp) F H M0 F' H' → Rp Z F' v d → D.rt v H'
  bk := fun ε' => ∀ σ' F' H' fp', Gr Z (Mf fp) F H (Mf fp') F' H' → StR Z F' H' σ' ε' fp' → D.bk σ' H'
  ct := fun ε' => ∀ σ' F' H' fp', Gr Z (Mf fp) F H (Mf fp') F' H' → StR Z F' H' σ' ε' fp' → D.ct σ' H'
def tSe (Φ : Tab) (s : S) : TS := fun D σ H => ∃ Z F ε fp, HI Z F H ∧ StR Z F H σ ε fp ∧ exS Φ s ε (PoR Z F H fp D)
theorem PoR.trans {Z : Zs} {F H F1 H1 : Hp} {fp fp1 : Nat → List Addr} {D : Ends} (g : Gr Z (Mf fp) F H (Mf fp1) F1 H1) : Po.Le (PoR Z F H fp D) (PoR Z F1 H1 fp1 D) :=
  ⟨fun _ k σ' F' H' fp' g' s => k σ' F' H' fp' (g.trans g') s, fun _ _ k v F' H' g' r => k v F' H' (g.trans g') r, fun _ k σ' F' H' fp' g' s => k σ' F' H' fp' (g.trans g') s, fun _ k σ' F' H' fp' g' s => k σ' F' H' fp' (g.trans g') s⟩
/-- with the number of slots at hand -/
theorem _root_.L2.PS.impN {X : Cx} {st : Stmt} {t t' : TS} (h : PS X st t) (k : ∀ σ H D, σ.length = X.N.length → t' D σ H → t D σ H) : PS X st t' := ⟨fun pins s σ H D I q => h.run pins s σ H D I (k σ H D I.len q)⟩
theorem _root_.L2.PSs.impN {X : Cx} {st : List Stmt} {t t' : TS} (h : PSs X st t) (k : ∀ σ H D, σ.length = X.N.length → t' D σ H → t D σ H) : PSs X st t' := ⟨fun pins s σ H D I q => h.run pins s σ H D I (k σ H D I.len q)⟩
theorem own_at {Z : Zs} {F H : Hp} {fp : Nat → List Addr} {σ : L2.St} {ε : Env} {i : Nat} (h : owB ((Pl.sl i).get ε) = true) (st : StR Z F H σ ε fp) : ∃ w, σ[i]? = some (some w) := by
  cases e : (Pl.sl i).get ε with
  | none => rw [e] at h; exact (Bool.false_ne_true h).elim
  | some f =>
    cases f with
    | sh d => rw [e] at h; exact (Bool.false_ne_true h).elim
    | ow d =>
      obtain ⟨q, o, f1, _⟩ := st.at_own e
      exact ⟨_, f1⟩
theorem mu_at {K : PySem.W.Frag} {Z : Zs} {F H : Hp} {fp : Nat → List Addr} {σ : L2.St} {ε : Env} {i : Nat} {m : Mu} (h : muK m ((Pl.sl i).get ε) = true) (hi : HI Z F H) (st : StR Z F H σ ε fp) : ∃ w, σ[i]? = some (some w) ∧ tyV K "list" w H := by
  have : ∃ ds, (Pl.sl i).get ε = some (.ow (.list ds)) := by
    cases e : (Pl.sl i).get ε with
    | none => rw [e] at h; cases m <;> exact (Bool.false_ne_true h).elim
    | some f =>
      rw [e] at h
      cases f with
      | sh d => cases m <;> exact (Bool.false_ne_true h).elim
      | ow d => cases m <;> cases d <;> first | exact ⟨_, rfl⟩ | exact (Bool.false_ne_true h).elim
  obtain ⟨ds, e⟩ := this
  obtain ⟨q, o, f1, f2, f3, f4, f5, _⟩ := st.at_own e
  cases o <;> try exact f5.elim
  exact ⟨_, f1, .inl ⟨rfl, _, .of f4⟩⟩
section
variable {X : Cx} {x y z : Expr} {a b c : C} {pos : Pos} {es : List Expr} {cs : Cs} {st : Stmt} {sts : List Stmt} {s u : S}
theorem se_skip : PSs X [] (tSe Φ .skip) :=
  pss_nil.impN fun σ H D _ ⟨Z, F, ε, fp, hi, st, h⟩ => by
    simp only [exS] at h
    exact h σ F H fp (Gr.refl hi) st
include hΦ
theorem se_seq (h1 : PS X st (tSe Φ s)) (h2 : PSs X sts (tSe Φ u)) : PSs X (st :: sts) (tSe Φ (.seq s u)) :=
  (pss_cons h1 h2).impN fun σ H D _ ⟨Z, F, ε, fp, hi, st, h⟩ => by
    simp only [exS] at h
    refine ⟨Z, F, ε, fp, hi, st, exS_mono hΦ s ε ?_ h⟩
    exact ⟨fun ε' k σ' F' H' fp' g st' => ⟨Z, F', ε', fp', g.hi, st', exS_mono hΦ u ε' (PoR.trans g) k⟩, fun _ _ k => k, fun _ k => k, fun _ k => k⟩
/-- the ghost: from now on shared -/
theorem se_frz {i : Nat} (h2 : PSs X sts (tSe Φ u)) : PSs X sts (tSe Φ (.seq (.frz (.sl i)) u)) :=
  h2.impN fun σ H D _ ⟨Z, F, ε, fp, hi, st, h⟩ => by
    simp only [exS] at h
    split at h
    · rename_i d e
      obtain ⟨p, o, e1, e2, e3, e4, e5, e6, e7⟩ := st.at_own e
      obtain ⟨hi2, k2⟩ := freeze1 hi e3 e4
      have r : Rp Z (upd F p o) (.ref p) d := (e5.mono k2).rp upd_same
      have hne : ∀ j b, b ∈ fp j → j ≠ i → b ≠ p := fun j b hb hj z => hj (st.dj j i b hb (by rw [e6, z]; simp))
      have stw : StR Z (upd F p o) H σ (ε.set i (.sh d)) (fun j => if j = i then [] else fp j) := by
        refine ⟨by rw [List.length_set]; exact st.len, fun j t et => ?_, fun j k b h1 h2 => ?_, fun j hj => ?_⟩
        · by_cases hj : j = i
          · subst hj
            rw [List.getElem?_set_self e7] at et
            cases et
            simp only [if_pos rfl]
            exact ⟨rfl, _, e1, r⟩
          · rw [List.getElem?_set_ne (Ne.symm hj)] at et
            simp only [if_neg hj]
            refine (st.sl j t et).gr k2 fun b hb => ?_
            obtain ⟨_, f, _⟩ := st.own hb
            exact ⟨by rw [upd_ne (hne j b hb hj)]; exact f, rfl⟩
        · by_cases hj : j = i
          · simp only [if_pos hj] at h1; cases h1
          · by_cases hk : k = i
            · simp only [if_pos hk] at h2; cases h2
            · simp only [if_neg hj] at h1
              simp only [if_neg hk] at h2
              exact st.dj j k b h1 h2
        · rw [List.length_set] at hj
          by_cases hji : j = i
          · simp only [if_pos hji]
          · simp only [if_neg hji]; exact st.out j hj
      have g : Gr Z (Mf fp) F H (Mf fun j => if j = i then [] else fp j) (upd F p o) H := by
        refine ⟨fun _ _ _ _ e => e, fun _ e => e, k2, fun b w e => ?_, fun b hb => ?_, hi2⟩
        · by_cases hb : b = p
          · exact .inr (.inr ⟨i, by rw [e6, hb]; simp⟩)
          · rw [upd_ne hb] at e; exact .inl e
        · rcases Mf.set hb with z | z
          · exact .inl z
          · cases z
      exact ⟨Z, _, _, _, hi2, stw, exS_mono hΦ u _ (PoR.trans g) h⟩
    · exact ⟨Z, F, ε, fp, hi, st, h⟩
    · exact h.elim
/-- a value shared and stored at a slot -/
theorem asg_core {i : Nat} (hs : shC a = true) {σ : L2.St} {H : Hp} {D : Ends} (h : tSe Φ (.asg i a) D σ H) : tCe Φ a σ H fun v H1 => gName i v σ H1 D.nx := by
  obtain ⟨Z, F, ε, fp, hi, st, h⟩ := h
  simp only [exS] at h
  refine ce_frz hΦ hs hi st (Gr.refl (M := Mf fp) hi) h fun d ε' v F' H' fp' k g st' r => ?_
  refine k _ F' H' _ (g.trans (Gr.less g.hi fun b hb => ?_)) (st'.setSh i r)
  rcases Mf.set hb with z | z
  · exact z
  · cases z
theorem asgO_core {i : Nat} (hs : frC a = true) {σ : L2.St} {H : Hp} {D : Ends} (hl : i < σ.length) (h : tSe Φ (.asgO i a) D σ H) : tCe Φ a σ H fun v H1 => gName i v σ H1 D.nx := by
  obtain ⟨Z, F, ε, fp, hi, st, h⟩ := h
  simp only [exS] at h
  refine ⟨Z, F, ε, fp, hi, st, ev_mono hΦ a ε (fun d ε1 h v F1 H1 fp1 g1 st1 l1 _ => ?_) h⟩
  rcases l1.cases with ⟨i, e, _⟩ | ⟨_, _, p, o, e, h0, m, f, n, k, s⟩ | ⟨_, e, _⟩
  · rw [e] at hs; cases hs
  · subst e
    have hm : ∀ b, Mf (fun j => if j = i then [p] else fp1 j) b → Mf fp1 b ∨ H b = none := fun b hb => by
      rcases Mf.set hb with z | z
      · exact .inl z
      · rw [List.mem_singleton.mp z]; exact .inr h0
    refine h _ F1 H1 _ ⟨g1.keep, g1.there, g1.fro, g1.new, fun b hb => ?_, g1.hi⟩ (st1.set i (s := .ow d) (fpi := [p]) ⟨p, o, rfl, rfl, f, n, k, s⟩ (fun b hb => ?_) (.inr (by rw [← st1.len]; exact hl)))
    · rcases hm b hb with z | z
      · exact g1.own b z
      · exact .inr z
    · rw [List.mem_singleton.mp hb]; exact .inl m
  · rw [e] at hs; cases hs
theorem se_asg {i : Nat} {n : Str} {p : Pos} {t : TE} (hs : shC a = true) (h : PS X (.Assign [.Name n p] x pos) (tAsg t (gName i))) (ht : ∀ σ H Q, tCe Φ a σ H Q → t σ H Q) : PS X (.Assign [.Name n p] x pos) (tSe Φ (.asg i a)) :=
  h.impN fun σ H D _ q => ht σ H _ (asg_core hΦ hs q)
theorem se_asgO {i : Nat} {n : Str} {p : Pos} {t : TE} (hs : frC a = true) (hi : X.N[i]? = some n) (h : PS X (.Assign [.Name n p] x pos) (tAsg t (gName i))) (ht : ∀ σ H Q, tCe Φ a σ H Q → t σ H Q) : PS X (.Assign [.Name n p] x pos) (tSe Φ (.asgO i a)) :=
  h.impN fun σ H D hl q => ht σ H _ (asgO_core hΦ hs (by rw [hl]; exact (List.getElem?_eq_some_iff.mp hi).1) q)
theorem se_asgT {t : Tg} {tg : Expr} (hs : shC a = true) (ha : PE X x (tCe Φ a)) (hg : PG X tg (gTe t)) (h1 : swapsWithSole [tg] x pos.line X.env = pure false) (h2 : swappedStores [tg] x X.env = pure none) (h3 : (assignEach [tg] X.env).map (·.2) = [assign tg X.env]) :
    PS X (.Assign [tg] x pos) (tSe Φ (.asgT t a)) :=
  (ps_asg ha hg h1 h2 h3).impN fun σ H D _ ⟨Z, F, ε, fp, hi, st, h⟩ => by
    simp only [exS] at h
    refine ce_frz hΦ hs hi st (Gr.refl (M := Mf fp) hi) h fun d ε' v F' H' fp' k g st' r => ?_
    split at k
    · rename_i ε1 e
      exact ⟨Z, F', ε', fp', d, ε1, g.hi, st', r, e, fun σ2 fp2 st2 m2 _ => k σ2 F' H' fp2 (g.trans (Gr.less g.hi m2)) st2⟩
    · exact k.elim
theorem setAll_two {i j : Nat} {ds : List PyData} {ε ε1 : Env} (h : setAll [i, j] ds ε = some ε1) : ∃ d e, ds = [d, e] ∧ ε1 = (ε.set i (.sh d)).set j (.sh e) := by
  match ds, h with
  | [d, e], h => simp only [setAll] at h; cases h; exact ⟨d, e, rfl, rfl⟩
  | [], h => simp [setAll] at h
  | [_], h => simp [setAll] at h
  | _ :: _ :: _ :: _, h => simp [setAll] at h
theorem setAll_three {i j l : Nat} {ds : List PyData} {ε ε1 : Env} (h : setAll [i, j, l] ds ε = some ε1) : ∃ d e f, ds = [d, e, f] ∧ ε1 = ((ε.set i (.sh d)).set j (.sh e)).set l (.sh f) := by
  match ds, h with
  | [d, e, f], h => simp only [setAll] at h; cases h; exact ⟨d, e, f, rfl, rfl⟩
  | [], h => simp [setAll] at h
  | [_], h => simp [setAll] at h
  | [_, _], h => simp [setAll] at h
  | _ :: _ :: _ :: _ :: _, h => simp [setAll] at h
theorem less_set {Z : Zs} {F H : Hp} {fp : Nat → List Addr} {i : Nat} (hi : HI Z F H) : Gr Z (Mf fp) F H (Mf fun j => if j = i then [] else fp j) F H := Gr.less hi fun b hb => (Mf.set hb).elim (fun z => z) fun z => by cases z
theorem se_par2 {i j : Nat} (hs : shCs cs = true) (h : PS X st (tPar i j (tCs Φ cs))) : PS X st (tSe Φ (.par [i, j] cs)) :=
  h.impN fun σ H D _ ⟨Z, F, ε, fp, hi, st, h⟩ => by
    simp only [exS] at h
    refine cs_shared hΦ hs hi st h fun ds ε1 vs F1 H1 fp1 h g1 st1 r1 => ?_
    split at h
    · rename_i ε2 e
      obtain ⟨d, e, rfl, rfl⟩ := setAll_two hΦ e
      cases r1 with
      | cons q1 q2 =>
        cases q2 with
        | cons q2 q3 =>
          cases q3
          exact ⟨_, _, rfl, h _ F1 H1 _ ((g1.trans (less_set hΦ g1.hi)).trans (less_set hΦ g1.hi)) ((st1.setSh i q1).setSh j q2)⟩
    · exact h.elim
theorem se_par3 {i j l : Nat} (hs : shCs cs = true) (h : PS X st (tPar3 i j l (tCs Φ cs))) : PS X st (tSe Φ (.par [i, j, l] cs)) :=
  h.impN fun σ H D _ ⟨Z, F, ε, fp, hi, st, h⟩ => by
    simp only [exS] at h
    refine cs_shared hΦ hs hi st h fun ds ε1 vs F1 H1 fp1 h g1 st1 r1 => ?_
    split at h
    · rename_i ε2 e
      obtain ⟨d, e, f, rfl, rfl⟩ := setAll_three hΦ e
      cases r1 with
      | cons q1 q2 =>
        cases q2 with
        | cons q2 q3 =>
          cases q3 with
          | cons q3 q4 =>
            cases q4
            exact ⟨_, _, _, rfl, h _ F1 H1 _ (((g1.trans (less_set hΦ g1.hi)).trans (less_set hΦ g1.hi)).trans (less_set hΦ g1.hi)) (((st1.setSh i q1).setSh j q2).setSh l q3)⟩
    · exact h.elim
/-- an own object changed in its place -/
theorem own_put {Z : Zs} {F H F0 H0 : Hp} {fp fp0 : Nat → List Addr} {σ : L2.St} {ε : Env} {i : Nat} {p : Addr} {o o' : HO} {d : PyData} (hi : HI Z F H) (st : StR Z F H σ ε fp) (g : Gr Z (Mf fp0) F0 H0 (Mf fp) F H)
    (e1 : σ[i]? = some (some (.ref p))) (e2 : F p = none) (e3 : p ∉ Z.dom) (e4 : H p = some o) (e6 : fp i = [p]) (e7 : i < ε.length) (s : Shp Z F o' d) :
    StR Z F (upd H p o') σ (ε.set i (.ow d)) fp ∧ Gr Z (Mf fp0) F0 H0 (Mf fp) F (upd H p o') := by
  have hi2 : HI Z F (upd H p o') := by
    refine ⟨fun b u e => ?_, hi.zf, fun b hb => ?_, ?_⟩
    · rw [upd_ne (fun (z : b = p) => by rw [z, e2] at e; cases e)]; exact hi.sub b u e
    · rw [upd_ne (fun (z : b = p) => e3 (z ▸ hb))]; exact hi.zh b hb
    · exact Z.loc H _ (fun b hb => (upd_ne (fun (z : b = p) => e3 (z ▸ hb))).symm) hi.zok
  refine ⟨⟨by rw [List.length_set]; exact st.len, fun j t et => ?_, st.dj, fun j hj => by rw [List.length_set] at hj; exact st.out j hj⟩, ?_⟩
  · by_cases hj : j = i
    · subst hj
      rw [List.getElem?_set_self e7] at et
      cases et
      exact ⟨p, o', e6, e1, e2, e3, upd_same, s⟩
    · rw [List.getElem?_set_ne (Ne.symm hj)] at et
      refine (st.sl j t et).gr (fun _ _ e => e) fun b hb => ?_
      obtain ⟨_, f, _⟩ := st.own hb
      exact ⟨f, upd_ne fun (z : b = p) => hj (st.dj j i b hb (by rw [e6, z]; simp))⟩
  · have gp : Gr Z (Mf fp) F H (Mf fp) F (upd H p o') := by
      refine ⟨fun b u _ m e => ?_, fun b e => ?_, fun _ _ e => e, fun _ _ e => .inl e, fun _ h => .inl h, hi2⟩
      · rw [upd_ne (fun (z : b = p) => m ⟨i, by rw [e6, z]; simp⟩)]; exact e
      · by_cases hb : b = p
        · subst hb; rw [upd_same] at e; cases e
        · rw [upd_ne hb] at e; exact e
    exact g.trans gp
def rSetE : TSet := fun o i v H Q => L2.rSetL o i v H Q ∨ rSetD o i v H Q
omit hΦ in
theorem set_either (hu : X.A.units + 1 < cLine) : PSet X rSetE := by
  intro pins s σ H o i v ov iv u Q I ro ri rv h
  rcases h with h | h
  · exact set_list pins s σ H o i v ov iv u Q I ro ri rv h
  · exact set_dict hu pins s σ H o i v ov iv u Q I ro ri rv h
theorem se_seti {i : Nat} {n : Str} {p p2 : Pos} (hu : X.A.units + 1 < cLine) (hs : shC a = true) (hN : X.N[i]? = some n) (hv : Vis X.env.scope n) (h1 : (n == ("__debug__" : Str)) = false) (h2 : (n == ("__classdict__" : Str)) = false) (ha : PE X x (tCe Φ a)) (hb : PE X y (tCe Φ b))
    (hsub : ∀ v, assign (.Subscript (.Name n p) y p2) X.env v = (do
      let ov ← holding [v] (eval (.Name n p) X.env)
      let iv ← holding [v, ov] (eval y X.env)
      standAt p2
      holding [v, ov, iv] (setItem ov iv v)
      release [v, ov, iv] [])) (h3 : swapsWithSole [.Subscript (.Name n p) y p2] x pos.line X.env = pure false) : PS X (.Assign [.Subscript (.Name n p) y p2] x pos) (tSe Φ (.seti (.sl i) b a)) :=
  (ps_asg ha (pg_sub (pe_var hN hv h1 h2) hb (set_either hu) hsub) h3 (by rfl) (by rfl)).impN fun σ H D _ ⟨Z, F, ε, fp, hi, st, h⟩ => by
    simp only [exS] at h
    refine ce_frz hΦ hs hi st (Gr.refl (M := Mf fp) hi) h fun d ε1 v F1 H1 fp1 h g1 st1 r1 => ?_
    obtain ⟨w, e1⟩ := own_at h.1 st1
    refine ⟨w, e1, Z, F1, ε1, fp1, g1.hi, st1, ev_mono hΦ b ε1 (fun k ε2 h w2 F2 H2 fp2 g2 st2 _ r2 => ?_) h.2⟩
    split at h
    · rename_i c e
      obtain ⟨c', ec, h⟩ := retD_some h
      obtain ⟨q, o, f1, f2, f3, f4, f5, f6, f7⟩ := st2.at_own e
      rw [e1] at f1
      cases f1
      by_cases hd : ∃ kvs, c = .dict kvs
      · obtain ⟨kvs, rfl⟩ := hd
        have ec : dPut (.dict kvs) k d = some c' := ec
        rcases dPut_some ec with ⟨kvs', ks, rfl, ek, hl, rfl⟩ | ⟨hk1, ks, ek, hl, rfl⟩
        · cases o <;> try exact f5.elim
          · cases f5 with
            | cons c _ _ => cases c
          rename_i ht
          obtain ⟨_, rA⟩ := f5
          obtain ⟨b', eb, hb'⟩ := Rdd.keyt r2 ek
          subst eb
          obtain ⟨stp, gp⟩ := own_put hΦ (d := .dict ((.none, .bool false) :: putTd kvs' k ks d)) (o' := .dT (putK ht ks v)) g2.hi st2 (g1.trans g2) e1 f2 f3 f4 f6 f7 ⟨rfl, RpT.put ek (g2.rp r1) rA⟩
          exact .inr ⟨q, _, rfl, .t f4 (g2.hi.sub _ _ hb') (by rw [rA.length]; exact line_lt hl), h σ F2 _ fp2 gp stp⟩
        · cases o <;> try exact f5.elim
          · rename_i hk
            have rA : RpK Z F2 hk _ := f5
            have ew := Rdd.keyv r2 ek
            subst ew
            obtain ⟨stp, gp⟩ := own_put hΦ (d := .dict _) (o' := .dK (putK hk ks v)) g2.hi st2 (g1.trans g2) e1 f2 f3 f4 f6 f7 (RpK.put ek (g2.rp r1) rA)
            exact .inr ⟨q, _, rfl, .k f4 (by rw [rA.length]; exact line_lt hl), h σ F2 _ fp2 gp stp⟩
          · rename_i ht
            have f5' : Shp Z F2 (.dT ht) (.dict kvs) := f5
            cases kvs with
            | nil => exact f5'.elim
            | cons p kvs =>
              obtain ⟨rfl, _⟩ := f5'
              simp [okK, kOf] at hk1
      have hd' : ∀ kvs, c ≠ .dict kvs := fun kvs z => hd ⟨kvs, z⟩
      cases c <;> (try exact absurd rfl (hd' _)) <;> cases k <;> simp only [setS] at ec <;> try (cases ec; done)
      split at ec <;> cases ec
      rename_i j ej
      obtain rfl := r2.intv
      cases o <;> try exact f5.elim
      rename_i xs
      have rA : RpA Z F2 xs _ := f5
      obtain ⟨stp, gp⟩ := own_put hΦ (d := .list _) (o' := .lst (xs.set j v)) g2.hi st2 (g1.trans g2) e1 f2 f3 f4 f6 f7 (RpA.set (g2.rp r1) j rA)
      exact .inl ⟨q, xs, _, j, rfl, rfl, f4, by rw [rA.length]; exact ej, h σ F2 _ fp2 gp stp⟩
    · exact h.elim
theorem se_app {i : Nat} {n : Str} {p apos cpos : Pos} (hs : shC a = true) (hN : X.N[i]? = some n) (hv : Vis X.env.scope n) (h1 : (n == ("__debug__" : Str)) = false) (h2 : (n == ("__classdict__" : Str)) = false) (ha : PE X x (tCe Φ a))
    (hx : starEach [x] X.env = (false, eval x X.env) :: starEach [] X.env) (hline : (apos.endLine == cpos.line) = true) : PS X (.Expr (.Call (.Attribute (.Name n p) "append" apos) [x] [] cpos) pos) (tSe Φ (.mut (.sl i) .append a)) :=
  (ps_expr (pe_bm (r := rAppend) PySem.F.plainAttrs_list PySem.F.slot_list_append PySem.F.type_list_append mt_append (pe_var hN hv h1 h2) (cs_cons hΦ ha cs_nil hx) (by rfl) (by rw [hx]; rfl) hline hx (by rfl)) (by rfl)).impN fun σ H D _ ⟨Z, F, ε, fp, hi, st, h⟩ => by
    simp only [exS] at h
    obtain ⟨hk, h⟩ := h
    obtain ⟨w, e1, ty⟩ := mu_at (K := X.K) hk hi st
    refine ⟨w, e1, ty, ?_⟩
    have h' : evs Φ (.cons a .nil) ε fun ds ε' => ∃ d, ds = [d] ∧ (match (Pl.sl i).get ε' with
      | some (.ow c) => retD (muS .append c d) fun c' => (PoR Z F H fp D).nx ((Pl.sl i).put (.ow c') ε')
      | _ => False) := by
      simp only [evs]
      exact ev_mono hΦ a ε (fun d ε1 z => ⟨d, rfl, z.2⟩) h
    refine cs_shared hΦ (by simp [shCs, hs]) hi st h' fun ds ε1 vs F1 H1 fp1 ⟨d, ed, h⟩ g1 st1 r1 => ?_
    subst ed
    split at h
    · rename_i c e
      obtain ⟨c', ec, h⟩ := retD_some h
      obtain ⟨q, o, f1, f2, f3, f4, f5, f6, f7⟩ := st1.at_own e
      rw [e1] at f1
      cases f1
      have : ∃ es, c = .list es ∧ es.length < LIM ∧ c' = .list (es ++ [d]) := by
        unfold muS at ec
        split at ec <;> first | contradiction | (split at ec <;> first | (cases ec; done) | (cases ec; exact ⟨_, rfl, by assumption, rfl⟩)) | (cases ec; done)
      obtain ⟨es, rfl, hl, rfl⟩ := this
      cases o <;> try exact f5.elim
      rename_i xs
      have rA : RpA Z F1 xs es := f5
      cases r1 with
      | cons q1 q2 =>
        cases q2
        obtain ⟨stp, gp⟩ := own_put hΦ (d := .list _) (o' := .lst (xs ++ [_])) g1.hi st1 g1 e1 f2 f3 f4 f6 f7 (rA.append (.cons q1 .nil))
        exact ⟨q, xs, _, rfl, rfl, f4, by rw [rA.length]; exact line_lt hl, h σ F1 _ fp1 gp stp⟩
    · exact h.elim
theorem se_ext {i : Nat} {n : Str} {p apos cpos : Pos} (hN : X.N[i]? = some n) (hv : Vis X.env.scope n) (h1 : (n == ("__debug__" : Str)) = false) (h2 : (n == ("__classdict__" : Str)) = false) (ha : PE X x (tCe Φ a))
    (hx : starEach [x] X.env = (false, eval x X.env) :: starEach [] X.env) (hline : (apos.endLine == cpos.line) = true) : PS X (.Expr (.Call (.Attribute (.Name n p) "extend" apos) [x] [] cpos) pos) (tSe Φ (.mut (.sl i) .extend a)) :=
  (ps_expr (pe_bm (r := rExtend) PySem.F.plainAttrs_list PySem.F.slot_list_extend PySem.F.type_list_extend mt_extend (pe_var hN hv h1 h2) (cs_cons hΦ ha cs_nil hx) (by rfl) (by rw [hx]; rfl) hline hx (by rfl)) (by rfl)).impN fun σ H D _ ⟨Z, F, ε, fp, hi, st, h⟩ => by
    simp only [exS] at h
    obtain ⟨hk, h⟩ := h
    obtain ⟨w, e1, ty⟩ := mu_at (K := X.K) hk hi st
    refine ⟨w, e1, ty, Z, F, ε, fp, hi, st, ?_⟩
    simp only [evs]
    refine ev_mono hΦ a ε (fun d ε1 h vs F1 H1 fp1 g1 st1 l1 => ?_) h
    obtain ⟨ok, h⟩ := h
    split at h
    · rename_i c e
      obtain ⟨c', ec, h⟩ := retD_some h
      obtain ⟨q, o, f1, f2, f3, f4, f5, f6, f7⟩ := st1.at_own e
      rw [e1] at f1
      cases f1
      have : ∃ es es', c = .list es ∧ d = .list es' ∧ es.length + es'.length ≤ LIM ∧ c' = .list (es ++ es') := by
        unfold muS at ec
        split at ec <;> first | contradiction | (split at ec <;> first | (cases ec; done) | (cases ec; exact ⟨_, _, rfl, rfl, by assumption, rfl⟩)) | (cases ec; done)
      obtain ⟨es, es', rfl, rfl, hl, rfl⟩ := this
      have rd := l1.late st1 (show okOs (.cons a .nil) [.list es'] ε1 from ⟨ok, trivial⟩)
      obtain ⟨v, rfl, rv⟩ := rd.one
      obtain ⟨b, zs, rfl, hB, rB⟩ := rv.list g1.hi.sub
      cases o <;> try exact f5.elim
      rename_i xs
      have rA : RpA Z F1 xs es := f5
      obtain ⟨stp, gp⟩ := own_put hΦ (d := .list _) (o' := .lst (xs ++ zs)) g1.hi st1 g1 e1 f2 f3 f4 f6 f7 (rA.append rB)
      exact ⟨q, b, xs, zs, rfl, rfl, f4, hB, by rw [rA.length, rB.length]; exact line_le hl, h σ F1 _ fp1 gp stp⟩
    · exact h.elim
theorem se_ifs {t : T} {sa sb : List Stmt} (ht : PT X x (tTe Φ t)) (ha : PSs X sa (tSe Φ s)) (hb : PSs X sb (tSe Φ u)) : PS X (.If x sa sb pos) (tSe Φ (.ifs t s u)) :=
  (ps_if ht ha hb).impN fun σ H D _ ⟨Z, F, ε, fp, hi, st, h⟩ => by
    simp only [exS] at h
    refine ⟨Z, F, ε, fp, hi, st, evT_mono hΦ t ε (fun k ε1 h F1 H1 fp1 g1 st1 => ?_) h⟩
    cases k with
    | true => exact iteT ⟨Z, F1, ε1, fp1, g1.hi, st1, exS_mono hΦ s ε1 (PoR.trans g1) h⟩
    | false => exact iteF ⟨Z, F1, ε1, fp1, g1.hi, st1, exS_mono hΦ u ε1 (PoR.trans g1) h⟩
theorem se_ret (hs : shC a = true) (ha : PE X x (tCe Φ a)) : PS X (.Return (some x) pos) (tSe Φ (.ret a)) :=
  (ps_ret ha).impN fun σ H D _ ⟨Z, F, ε, fp, hi, st, h⟩ => by
    simp only [exS] at h
    refine ce_frz hΦ hs hi st (Gr.refl (M := Mf fp) hi) h fun d ε1 v F1 H1 fp1 h g1 st1 r1 => ?_
    exact h v F1 H1 (g1.trans (Gr.less g1.hi fun _ z => z.elim)) r1
omit hΦ in
theorem se_retN : PS X (.Return none pos) (tSe Φ .retN) :=
  ps_retN.impN fun σ H D _ ⟨Z, F, ε, fp, hi, st, h⟩ => by
    simp only [exS] at h
    exact h _ F H (Gr.less hi fun _ z => z.elim) .non
omit hΦ in
theorem se_brk : PS X (.Break pos) (tSe Φ .brk) :=
  ps_break.impN fun σ H D _ ⟨Z, F, ε, fp, hi, st, h⟩ => by
    simp only [exS] at h
    exact h σ F H fp (Gr.refl hi) st
omit hΦ in
theorem se_cnt : PS X (.Continue pos) (tSe Φ .cnt) :=
  ps_continue.impN fun σ H D _ ⟨Z, F, ε, fp, hi, st, h⟩ => by
    simp only [exS] at h
    exact h σ F H fp (Gr.refl hi) st
omit hΦ in
theorem se_pas : PS X (.Pass pos) (tSe Φ .pas) :=
  ps_pass.impN fun σ H D _ ⟨Z, F, ε, fp, hi, st, h⟩ => by
    simp only [exS] at h
    exact h σ F H fp (Gr.refl hi) st
omit hΦ in
theorem se_nev : PS X st (tSe Φ .nev) :=
  ps_never.impN fun σ H D _ ⟨Z, F, ε, fp, hi, st, h⟩ => by
    simp only [exS] at h
theorem se_exp (ha : PE X x (tCe Φ a)) (hs : swapsWith x none pos.line X.env = pure false) : PS X (.Expr x pos) (tSe Φ (.exp a)) :=
  (ps_expr ha hs).impN fun σ H D _ ⟨Z, F, ε, fp, hi, st, h⟩ => by
    simp only [exS] at h
    exact ⟨Z, F, ε, fp, hi, st, ev_mono hΦ a ε (fun d ε1 h v F1 H1 fp1 g1 st1 _ _ => h σ F1 H1 fp1 g1 st1) h⟩
theorem se_whl {t : T} {body : List Stmt} (hp : X.xe = fun _ _ => False) (ht : PT X x (tTe Φ t)) (hb : PSs X body (tSe Φ s)) : PS X (.While x body [] pos) (tSe Φ (.whl t s)) :=
  (ps_while (by rw [hp]; exact PassesOwn.never) ht hb).impN fun σ H D _ ⟨Z, F, ε, fp, hi, st, n, h⟩ => by
    refine ⟨fun m σ' H' => ∃ F' ε' fp', Gr Z (Mf fp) F H (Mf fp') F' H' ∧ StR Z F' H' σ' ε' fp' ∧ whlN (fun ε0 q => evT Φ t ε0 q) (fun ε0 P' => exS Φ s ε0 P') m ε' (PoR Z F H fp D), ⟨n, F, ε, fp, Gr.refl hi, st, h⟩, ?_⟩
    rintro m σ1 H1 ⟨F1, ε1, fp1, g1, st1, h1⟩
    cases m with
    | zero => exact h1.elim
    | succ m =>
      refine ⟨Z, F1, ε1, fp1, g1.hi, st1, evT_mono hΦ t ε1 (fun k ε2 h2 F2 H2 fp2 g2 st2 => ?_) h1⟩
      have g12 := g1.trans g2
      cases k with
      | true =>
        refine iteT ⟨fun σ' H' => ∃ F' ε' fp', Gr Z (Mf fp) F H (Mf fp') F' H' ∧ StR Z F' H' σ' ε' fp' ∧ whlN (fun ε0 q => evT Φ t ε0 q) (fun ε0 P' => exS Φ s ε0 P') m ε' (PoR Z F H fp D), fun σ' H' h => ⟨m, Nat.lt_succ_self m, h⟩, Z, F2, ε2, fp2, g12.hi, st2, exS_mono hΦ s ε2 ?_ h2⟩
        exact ⟨fun ε' k σ' F' H' fp' g' st' => ⟨F', ε', fp', g12.trans g', st', k⟩, fun _ _ k v F' H' g' r => k v F' H' (g12.trans g') r, fun _ k σ' F' H' fp' g' st' => k σ' F' H' fp' (g12.trans g') st', fun ε' k σ' F' H' fp' g' st' => ⟨F', ε', fp', g12.trans g', st', k⟩⟩
      | false => exact iteF (h2 σ1 F2 H2 fp2 g12 st2)
theorem se_fr {t : Tg} {k : Ik} {its : Cs} {tg iter : Expr} {body : List Stmt} (hc : X.calm = true) (hp : X.xe = fun _ _ => False) (hi : PI X tg iter (tIt Φ k its)) (hg : PG X tg (gTe t)) (hb : PSs X body (tSe Φ s)) (hs : ∀ v, foldedSetIterable iter X.env v = pure v) :
    PS X (.For tg iter body [] pos) (tSe Φ (.fr t k its s)) :=
  (ps_for (by rw [hp]; exact PassesOwn.never) hc hi hg hb hs).impN fun σ H D _ ⟨Z, F, ε, fp, hi, st, h⟩ => by
    simp only [exS] at h
    refine ⟨Z, F, ε, fp, hi, st, evs_mono hΦ its ε (fun ds ε1 h => ?_) h⟩
    split at h
    · rename_i xs exs
      refine ⟨xs, exs, fun F1 H1 fp1 J g1 st1 yl => ?_⟩
      refine ⟨fun i m σ' H' => i ≤ xs.length ∧ m = xs.length - i ∧ ∃ F' ε' fp', Gr Z (Mf fp1) F1 H1 (Mf fp') F' H' ∧ StR Z F' H' σ' ε' fp' ∧
        forL (fun d ε0 P' => match tgS t d ε0 with
          | some ε1 => exS Φ s ε1 P'
          | none => False) (xs.drop i) ε' (PoR Z F H fp D), ⟨_, Nat.zero_le _, rfl, F1, ε1, fp1, Gr.refl g1.hi, st1, h⟩, ?_⟩
      rintro i m σ2 H2 ⟨hix, rfl, F2, ε2, fp2, g2, st2, h2⟩
      by_cases hlt : i < xs.length
      · obtain ⟨go, yld⟩ := (yl F2 H2 g2.fro g2.hi i).1 hlt
        refine .inr ⟨go, fun σ' H' => i + 1 ≤ xs.length ∧ ∃ F' ε' fp', Gr Z (Mf fp1) F1 H1 (Mf fp') F' H' ∧ StR Z F' H' σ' ε' fp' ∧
          forL (fun d ε0 P' => match tgS t d ε0 with
          | some ε1 => exS Φ s ε1 P'
          | none => False) (xs.drop (i + 1)) ε' (PoR Z F H fp D), fun σ' H' ⟨h1, h3⟩ => ⟨xs.length - (i + 1), by omega, h1, rfl, h3⟩, fun x H3 hy => ?_⟩
        obtain ⟨F3, d, g3, ed, rd⟩ := yld x H3 hy
        have st3 := st2.gr0 g3
        have g23 := g2.trans g3.lift
        have edr : xs.drop i = d :: xs.drop (i + 1) := by
          obtain ⟨h1, h3⟩ := List.getElem?_eq_some_iff.mp ed
          rw [List.drop_eq_getElem_cons h1, h3]
        rw [edr, forL] at h2
        split at h2
        · rename_i ε4 et
          refine ⟨Z, F3, ε2, fp2, d, ε4, g3.hi, st3, rd, et, fun σ4 fp4 st4 m4 _ => ?_⟩
          have g4 := g23.trans (Gr.less g3.hi m4)
          refine ⟨Z, F3, ε4, fp4, g3.hi, st4, exS_mono hΦ s ε4 ?_ h2⟩
          exact ⟨fun ε' k σ' F' H' fp' g' st' => ⟨by omega, F', ε', fp', g4.trans g', st', k⟩, fun _ _ k v F' H' g' r => k v F' H' ((g1.trans g4).trans g') r, fun _ k σ' F' H' fp' g' st' => k σ' F' H' fp' ((g1.trans g4).trans g') st', fun ε' k σ' F' H' fp' g' st' => ⟨by omega, F', ε', fp', g4.trans g', st', k⟩⟩
        · exact h2.elim
      · have e : i = xs.length := by omega
        subst e
        refine .inl ⟨(yl F2 H2 g2.fro g2.hi _).2 (Nat.le_refl _), ?_⟩
        rw [List.drop_length, forL] at h2
        exact h2 σ2 F2 H2 fp2 (g1.trans g2) st2
    · exact h.elim
end
end Ev
/-! Ev10: a code is the text of an expression, a block -/
namespace Ev
open PySem PySem.Spec PyProof.Rows L2
structure Cfg where
  fns : List (Option (Str × Nat))
  bls : List Str
def gB (sc : Scope) (x : Str) : Bool := decide (sc.names.lookup x = some .globalImplicit)
def vB (sc : Scope) (x : Str) : Bool := match sc.names.lookup x with
  | some .local => true
  | some .cell => true
  | some .free => true
  | _ => false
def lB (sc : Scope) (x : Str) : Bool := match sc.names.lookup x with
  | some .local => true
  | some .cell => true
  | _ => false
def nB (x : Str) : Bool := !(x == ("__debug__" : Str)) && !(x == ("__classdict__" : Str))
def bB (cf : Cfg) (sc : Scope) (x : Str) (n : String) : Bool := decide (x = Str.ofString n) && decide (Str.ofString n ∈ cf.bls) && gB sc x
/-- no star -/
def nsE : Expr → Bool
  | .Starred .. => false
  | _ => true
/-- no slice -/
def npE : Expr → Bool
  | .Slice .. => false
  | _ => true
def ntE : Expr → Bool
  | .Set .. => false
  | _ => true
def baseB : Expr → Bool
  | .Call .. => false
  | _ => true
def isTupE : Expr → Bool
  | .Tuple .. => true
  | _ => false
def isLc : Expr → Bool
  | .ListComp .. => true
  | .SetComp .. => true
  | .DictComp .. => true
  | _ => false
def tvB (c : C) : Expr → Bool
  | .UnaryOp .Not _ _ => false
  | .BoolOp .. => false
  | .IfExp .. => false
  | .Compare .. => match c with
    | .op .. => true
    | .chain .. => true
    | .un .isN _ => true
    | .un .notN _ => true
    | _ => false
  | _ => true
def ownL (N : List Str) (vs : List Nat) : List (Str × Nat) := vs.map fun i => (N.getD i "", i)
mutual
def chkTg (N : List Str) (sc : Scope) : Tg → Expr → Bool
  | .nm i, e => match e with
    | .Name x _ => decide (N[i]? = some x) && lB sc x
    | _ => false
  | .tp ts, e => match e with
    | .Tuple es _ _ => chkTgs N sc ts es
    | _ => false
def chkTgs (N : List Str) (sc : Scope) : Tgs → List Expr → Bool
  | .nil, es => match es with
    | [] => true
    | _ => false
  | .cons t r, es => match es with
    | x :: xs => nsE x && chkTg N sc t x && chkTgs N sc r xs
    | _ => false
end
def chkIt (cf : Cfg) (sc : Scope) (k : Ik) (its : Cs) (tg iter : Expr) (q : List Expr → Bool) : Bool := match k with
  | .seq => ntE iter && decide (its.len = 1) && q [iter]
  | .rng => match iter with
    | .Call (.Name x _) args [] _ => bB cf sc x "range" && decide (its.len = args.length) && (decide (args.length = 1) || decide (args.length = 2)) && q args
    | _ => false
  | .rst => match iter with
    | .Call (.Name x _) args [] _ => bB cf sc x "range" && decide (its.len = 3) && decide (args.length = 3) && q args
    | _ => false
  | .enum => match iter with
    | .Call (.Name x _) args [] _ => isTupE tg && bB cf sc x "enumerate" && decide (its.len = 1) && decide (args.length = 1) && q args
    | _ => false
  | .zip => match iter with
    | .Call (.Name x _) args [] _ => isTupE tg && bB cf sc x "zip" && decide (its.len = 2) && decide (args.length = 2) && q args
    | _ => false
def es12 : Cs → List Expr → Bool
  | .cons _ .nil, [_] => true
  | .cons _ (.cons _ .nil), [_, _] => true
  | _, _ => false
theorem es12_of {es : Cs} {args : List Expr} (h : es12 es args = true) : (∃ c z, es = .cons c .nil ∧ args = [z]) ∨ ∃ c d z z', es = .cons c (.cons d .nil) ∧ args = [z, z'] := by
  unfold es12 at h
  split at h
  · exact .inl ⟨_, _, rfl, rfl⟩
  · exact .inr ⟨_, _, _, _, rfl, rfl⟩
  · cases h
def noFr : Cs → Bool
  | .nil => true
  | .cons c r => !(frC c) && noFr r
mutual
def chkC (N : List Str) (cf : Cfg) : C → Scope → Expr → Bool
  | .rd p, sc, e => match p, e with
    | .sl i, .Name x _ => decide (N[i]? = some x) && vB sc x && nB x
    | _, _ => false
  | .own p, sc, e => match p, e with
    | .sl i, .Name x _ => decide (N[i]? = some x) && vB sc x && nB x
    | _, _ => false
  | .int n, _, e => match e with
    | .Constant (.int m) _ _ => decide (m = n)
    | _ => false
  | .bl n, _, e => match e with
    | .Constant (.bool m) _ _ => decide (m = n)
    | _ => false
  | .non, _, e => match e with
    | .Constant .none _ _ => true
    | _ => false
  | .str n, _, e => match e with
    | .Constant (.str m) _ _ => decide (m = n)
    | _ => false
  | .tup es, sc, e => match e with
    | .Tuple xs _ _ => shCs es && decide (xs.length ≤ 1000) && chkCs N cf es sc xs
    | _ => false
  | .lst es, sc, e => match e with
    | .List xs _ => shCs es && decide (xs.length ≤ 1000) && chkCs N cf es sc xs
    | _ => false
  | .dnew _, _, e => match e with
    | .Dict [] [] _ => true
    | _ => false
  | .op o a b, sc, e => match e with
    | .BinOp x p y _ => decide (opB o = some p) && chkC N cf a sc x && chkC N cf b sc y
    | .Compare x [p] [y] _ => decide (opC o = some p) && !(behindInMarks p y) && chkC N cf a sc x && chkC N cf b sc y
    | _ => false
  | .un o a, sc, e => match o, e with
    | .neg, .UnaryOp .USub x _ => chkC N cf a sc x
    | .nt, .UnaryOp .Not x _ => chkC N cf a sc x
    | .isN, .Compare x [.Is] [.Constant .none _ _] _ => chkC N cf a sc x
    | .notN, .Compare x [.IsNot] [.Constant .none _ _] _ => chkC N cf a sc x
    | _, _ => false
  | .chain o p a b c, sc, e => match e with
    | .Compare x [q1, q2] [y, z] _ => decide (opC o = some q1) && decide (opC p = some q2) && !(lastMarks [q1, q2] [y, z]) && chkC N cf a sc x && chkC N cf b sc y && chkC N cf c sc z
    | _ => false
  | .nd a b, sc, e => match e with
    | .BoolOp .And (x :: y :: r) pos => shC b && !(frC b) && chkC N cf a sc x && (match r with
      | [] => chkC N cf b sc y
      | _ :: _ => chkC N cf b sc (.BoolOp .And (y :: r) pos))
    | _ => false
  | .or a b, sc, e => match e with
    | .BoolOp .Or (x :: y :: r) pos => shC b && !(frC b) && chkC N cf a sc x && (match r with
      | [] => chkC N cf b sc y
      | _ :: _ => chkC N cf b sc (.BoolOp .Or (y :: r) pos))
    | _ => false
  | .ite t a b, sc, e => match e with
    | .IfExp x y z _ => shC a && shC b && chkT N cf t sc x && chkC N cf a sc y && chkC N cf b sc z
    | _ => false
  | .idx a i, sc, e => match e with
    | .Subscript x y _ => npE y && chkC N cf a sc x && chkC N cf i sc y
    | _ => false
  | .slc a lo hi, sc, e => match e with
    | .Subscript x (.Slice l u none _) _ => chkC N cf a sc x && chkO N cf lo sc l && chkO N cf hi sc u
    | _ => false
  | .rev a, sc, e => match e with
    | .Subscript x (.Slice none none (some (.UnaryOp .USub (.Constant (.int n) _ _) _)) _) _ => decide (n = 1) && chkC N cf a sc x
    | _ => false
  | .cl f es, sc, e => match e with
    | .Call (.Name x _) args [] _ => match cf.fns[f]? with
      | some (some (y, n)) => decide (x = y) && decide (args.length = n) && decide (args ≠ []) && gB sc x && nB x && shCs es && chkCs N cf es sc args
      | _ => false
    | _ => false
  | .bi f es, sc, e => match e with
    | .Call (.Name x _) args [] _ => match f with
      | .sortset => match args with
        | [.Call (.Name y _) as [] _] => bB cf sc x "sorted" && bB cf sc y "set" && decide (as.length = 1) && chkCs N cf es sc as
        | _ => false
      | .listrng => match args with
        | [.Call (.Name y _) as [] _] => bB cf sc x "list" && bB cf sc y "range" && decide (as.length = 1) && chkCs N cf es sc as
        | _ => false
      | .tuprng => match args with
        | [.Call (.Name y _) as [] _] => bB cf sc x "tuple" && bB cf sc y "range" && decide (as.length = 1) && chkCs N cf es sc as
        | _ => false
      | _ => match fnV f with
        | some (_, n) => bB cf sc x n && decide (args ≠ []) && chkCs N cf es sc args
        | none => false
    | _ => false
  | .mt m a es, sc, e => match m, e with
    | .index, .Call (.Attribute x nm apos) args [] pos => decide (nm = ("index" : Str)) && baseB x && (apos.endLine == pos.line) && decide (args.length = 1) && chkC N cf a sc x && chkCs N cf es sc args
    | .get, .Call (.Attribute x nm apos) args [] pos => decide (nm = ("get" : Str)) && baseB x && (apos.endLine == pos.line) && shCs es && noFr es && es12 es args && chkC N cf a sc x && chkCs N cf es sc args
    | _, _ => false
  | .comp vs t k its cond elt, sc, e => match e with
    | .ListComp e1 [⟨tg, iter, ifs, as⟩] scope _ => decide (as = 0) && blkC N sc scope (ownL N vs) && (t.slots.all fun i => decide (i ∈ vs)) && shC elt && shCs its && chkTg N scope t tg && chkIt cf sc k its tg iter (chkCs N cf its sc) &&
      (match ifs with
        | [] => match cond with
          | .yes => true
          | _ => false
        | [c] => chkT N cf cond (relS scope sc) c
        | _ => false) && chkC N cf elt (relS scope sc) e1
    | _ => false
def chkCs (N : List Str) (cf : Cfg) : Cs → Scope → List Expr → Bool
  | .nil, _, es => match es with
    | [] => true
    | _ => false
  | .cons c r, sc, es => match es with
    | x :: xs => nsE x && chkC N cf c sc x && chkCs N cf r sc xs
    | _ => false
def chkT (N : List Str) (cf : Cfg) : T → Scope → Expr → Bool
  | .v c, sc, e => tvB c e && chkC N cf c sc e
  | .nt a, sc, e => match e with
    | .UnaryOp .Not x _ => chkT N cf a sc x
    | _ => false
  | .nd a b, sc, e => match e with
    | .BoolOp .And (x :: y :: r) pos => chkT N cf a sc x && (match r with
      | [] => chkT N cf b sc y
      | _ :: _ => chkT N cf b sc (.BoolOp .And (y :: r) pos))
    | _ => false
  | .or a b, sc, e => match e with
    | .BoolOp .Or (x :: y :: r) pos => chkT N cf a sc x && (match r with
      | [] => chkT N cf b sc y
      | _ :: _ => chkT N cf b sc (.BoolOp .Or (y :: r) pos))
    | _ => false
  | .yes, _, _ => false
def chkO (N : List Str) (cf : Cfg) : O → Scope → Option Expr → Bool
  | .no, _, e => match e with
    | none => true
    | some _ => false
  | .so c, sc, e => match e with
    | some x => chkC N cf c sc x
    | none => false
end
/-- what stands around a piece of text -/
structure SX (Φ : Tab) (cf : Cfg) (N : List Str) (sc : Scope) (X : Cx) : Prop where
  eN : X.N = N
  nd : N.Nodup
  sc : X.env.scope = sc
  calm : X.calm = true
  un : X.A.units + 65 < cLine
  bl : ∀ x, x ∈ cf.bls → X.mg x = none
  fns : ∀ f x n, cf.fns[f]? = some (some (x, n)) → ∃ k a fd ps, X.mg x = some (.ref a) ∧ PySem.W.keepIn X.K (.ref a) = true ∧ Binds X.K fd ps [] ∧ Room k X.A ∧ FnOk X.prog X.w X.K X.mg X.base CX0 k a fd ps (spF n (Φ f))
theorem and_t {a b : Bool} (h : (a && b) = true) : a = true ∧ b = true := by rwa [Bool.and_eq_true] at h
theorem star_cons {x : Expr} {xs : List Expr} {env : PySem.Env} (h : nsE x = true) : starEach (x :: xs) env = (false, eval x env) :: starEach xs env := by
  cases x <;> first | rfl | exact (Bool.false_ne_true h).elim
theorem asg_cons {x : Expr} {xs : List Expr} {env : PySem.Env} (h : nsE x = true) : assignEach (x :: xs) env = (false, assign x env) :: assignEach xs env := by
  cases x <;> first | rfl | exact (Bool.false_ne_true h).elim
theorem vis_of {sc : Scope} {x : Str} (h : vB sc x = true) : Vis sc x := by
  unfold vB at h
  split at h <;> first | exact .inl (by assumption) | exact .inr (.inl (by assumption)) | exact .inr (.inr (by assumption)) | exact (Bool.false_ne_true h).elim
theorem loc_of {sc : Scope} {x : Str} (h : lB sc x = true) : Loc sc x := by
  unfold lB at h
  split at h <;> first | exact .inl (by assumption) | exact .inr (by assumption) | exact (Bool.false_ne_true h).elim
theorem nB_of {x : Str} (h : nB x = true) : (x == ("__debug__" : Str)) = false ∧ (x == ("__classdict__" : Str)) = false := by
  unfold nB at h
  obtain ⟨h1, h2⟩ := and_t h
  exact ⟨by simpa using h1, by simpa using h2⟩
section
variable {Φ : Tab} {cf : Cfg} {N : List Str} {sc : Scope} {X : Cx}
theorem SX.gl (S : SX Φ cf N sc X) {x : Str} (h : gB sc x = true) : Gl X x := by
  have e := of_decide_eq_true h
  rw [← S.sc] at e
  exact e
theorem SX.blt (S : SX Φ cf N sc X) {x : Str} {n : String} (h : bB cf sc x n = true) : x = Str.ofString n ∧ Gl X (Str.ofString n) ∧ X.mg (Str.ofString n) = none := by
  obtain ⟨h1, h3⟩ := and_t h
  obtain ⟨h1, h2⟩ := and_t h1
  have e := of_decide_eq_true h1
  subst e
  exact ⟨rfl, S.gl h3, S.bl _ (of_decide_eq_true h2)⟩
theorem SX.blk (S : SX Φ cf N sc X) (scope : Scope) (s : Shared) (H : Hp) (C : Addr) (cl : List (Str × Addr)) (fp : List Addr) : SX Φ cf N (relS scope sc) (X.blk s H scope (compEnvC scope cl C X.env) fp) :=
  ⟨S.eN, S.nd, by rw [← S.sc]; rfl, S.calm, S.un, S.bl, S.fns⟩
/-- a block's targets -/
theorem tg_of (h0 : ∀ x, lB sc x = true → Loc X.env.scope x ∧ (X.fn x = true ∨ X.env.scope.names.lookup x = some .local)) (hc : X.calm = true) (hN : X.N = N) (nd : N.Nodup) : ∀ (t : Tg) {e : Expr}, chkTg N sc t e = true → PG X e (gTe t)
  | .nm i, e, h => by
    simp only [chkTg] at h
    split at h
    · obtain ⟨h1, h2⟩ := and_t h
      exact ge_nm (by rw [hN]; exact nd) (by rw [hN]; exact of_decide_eq_true h1) (h0 _ h2).1 (h0 _ h2).2
    · cases h
  | .tp ts, e, h => by
    simp only [chkTg] at h
    split at h
    · rename_i es k pos
      have both := tgs_of ts h
      exact ge_tp hc both.1 both.2.1 both.2.2
    · cases h
where
  tgs_of : ∀ (ts : Tgs) {es : List Expr}, chkTgs N sc ts es = true → PGs X es (gTs ts) ∧ (assignEach es X.env).length = ts.len ∧ (assignEach es X.env).findIdx? (·.1) = none
  | .nil, es, h => by
    simp only [chkTgs] at h
    split at h
    · exact ⟨gs_nil, rfl, rfl⟩
    · cases h
  | .cons t r, es, h => by
    simp only [chkTgs] at h
    split at h
    · obtain ⟨h1, h3⟩ := and_t h
      obtain ⟨h1, h2⟩ := and_t h1
      obtain ⟨a, b, c⟩ := tgs_of r h3
      refine ⟨gs_cons (tg_of h0 hc hN nd t h2) a (by rw [asg_cons h1]; rfl), ?_, ?_⟩
      · rw [asg_cons h1, List.length_cons, b, Tgs.len]
      · rw [asg_cons h1, List.findIdx?_cons]
        simp [c]
    · cases h
end
theorem bw_of {op : BoolOp} {ys : List Expr} {pos : Pos} {t : TT} (h : PT X (.BoolOp op ys pos) t) : PW X (.BoolOp op ys pos) t :=
  ⟨fun wh pins s σ H Q I q => by
    have := h.run pins s σ H Q I q
    exact this⟩
end Ev
/-! Ev11: a checked code is an expression's meaning -/
namespace Ev
open PySem PySem.Spec PyProof.Rows L2
section
variable {Φ : Tab} {cf : Cfg} {N : List Str}
theorem notFr {b : Bool} (h : (!b) = true) : b = false := by cases b <;> simp_all
theorem plain_of {y : Expr} (h : npE y = true) : PlainIx y := by
  cases y <;> first | exact (Bool.false_ne_true h).elim | (intro o i; rfl)
theorem fold_of {it : Expr} {env : PySem.Env} (h : ntE it = true) : ∀ v, foldedSetIterable it env v = pure v := by
  intro v
  cases it <;> first | rfl | exact (Bool.false_ne_true h).elim
theorem tv_of {c : C} {e : Expr} {env : PySem.Env} (h : tvB c e = true) (hc : ∀ l o r p, e ≠ .Compare l o r p) : ∀ whole, isTrue e env whole = (do let v ← whole; standAt e.pos; holding [v] (truthy v)) := by
  intro w
  cases e <;> first | rfl | exact (Bool.false_ne_true h).elim | skip
  · rename_i o _ _
    cases o <;> first | rfl | exact (Bool.false_ne_true h).elim
  · exact (hc _ _ _ _ rfl).elim
theorem base_of {x : Expr} {nm : Str} {env : PySem.Env} (h : baseB x = true) : attributeBase x nm env (eval x env) = eval x env := by
  cases x <;> first | rfl | exact (Bool.false_ne_true h).elim
theorem cs_length : ∀ {cs : Cs} {sc : Scope} {es : List Expr}, chkCs N cf cs sc es = true → cs.len = es.length
  | .nil, sc, es, h => by
    simp only [chkCs] at h
    split at h
    · rfl
    · cases h
  | .cons c r, sc, es, h => by
    simp only [chkCs] at h
    split at h
    · obtain ⟨h1, h3⟩ := and_t h
      rw [Cs.len, cs_length h3, List.length_cons]
    · cases h
theorem ns_any {sc : Scope} {env : PySem.Env} : ∀ {es : List Expr} {cs : Cs}, chkCs N cf cs sc es = true → ∀ pos, (backTo pos (starEach es env)).any (·.1) = false
  | [], _, _, _ => rfl
  | x :: xs, .nil, h, _ => by simp [chkCs] at h
  | x :: xs, .cons c r, h, pos => by
      simp only [chkCs] at h
      obtain ⟨h1, h3⟩ := and_t h
      obtain ⟨h1, h2⟩ := and_t h1
      have ih := ns_any (env := env) h3 pos
      rw [star_cons h1]
      unfold backTo at ih ⊢
      rw [List.map_cons, List.any_cons, ih]
      rfl
/-- the first of some -/
theorem ns_hd {c : C} {cs : Cs} {sc : Scope} {x : Expr} {xs : List Expr} {env : PySem.Env} (h : chkCs N cf cs sc (x :: xs) = true) : starEach (x :: xs) env = (false, eval x env) :: starEach xs env ∧ ∀ pos, (backTo pos (starEach xs env)).any (·.1) = false := by
  cases cs with
  | nil => simp [chkCs] at h
  | cons c r =>
    simp only [chkCs] at h
    obtain ⟨h1, h3⟩ := and_t h
    obtain ⟨h1, h2⟩ := and_t h1
    exact ⟨star_cons h1, ns_any h3⟩
theorem lB_blk {sc scope : Scope} {x : Str} (h : lB scope x = true) : Loc (relS scope sc) x ∧ ((scope.names.lookup x == some .cell) = true ∨ (relS scope sc).names.lookup x = some .local) := by
  rcases loc_of h with e | e
  · exact ⟨.inl (lookup_relS_keep (by simp) e), .inr (lookup_relS_keep (by simp) e)⟩
  · exact ⟨.inr (lookup_relS_keep (by simp) e), .inl (by rw [e]; rfl)⟩
def PEs (Φ : Tab) (X : Cx) : Cs → List Expr → Prop
  | .nil, [] => True
  | .cons c r, x :: xs => PE X x (tCe Φ c) ∧ nsE x = true ∧ PEs Φ X r xs
  | _, _ => False
theorem fold_it {sc : Scope} {k : Ik} {its : Cs} {tg iter : Expr} {q : List Expr → Bool} {env : PySem.Env} (h : chkIt cf sc k its tg iter q = true) : ∀ v, foldedSetIterable iter env v = pure v := by
  cases k <;> simp only [chkIt] at h
  · obtain ⟨h1, _⟩ := and_t h
    obtain ⟨h1, _⟩ := and_t h1
    exact fold_of h1
  all_goals
    split at h
    · intro v; rfl
    · cases h
theorem one_of {X : Cx} {its : Cs} {es : List Expr} (hl : its.len = 1) (hs : shCs its = true) (h : PEs Φ X its es) : ∃ c x, its = .cons c .nil ∧ es = [x] ∧ shC c = true ∧ PE X x (tCe Φ c) ∧ nsE x = true := by
  match its, es, hl, hs, h with
  | .cons c .nil, [x], _, hs, h =>
    rw [shCs, Bool.and_eq_true] at hs
    exact ⟨c, x, rfl, rfl, hs.1, h.1, h.2.1⟩
  | .cons c .nil, [], _, _, h => exact h.elim
  | .cons c .nil, _ :: _ :: _, _, _, h => exact h.2.2.elim
  | .cons c (.cons _ _), _, hl, _, _ => simp [Cs.len] at hl
theorem two_of {X : Cx} {its : Cs} {es : List Expr} (hl : its.len = 2) (hs : shCs its = true) (h : PEs Φ X its es) : ∃ c d x y, its = .cons c (.cons d .nil) ∧ es = [x, y] ∧ (shC c = true ∧ shC d = true) ∧ (PE X x (tCe Φ c) ∧ nsE x = true) ∧ PE X y (tCe Φ d) ∧ nsE y = true := by
  match its, es, hl, hs, h with
  | .cons c (.cons d .nil), [x, y], _, hs, h =>
    simp only [shCs, Bool.and_eq_true] at hs
    exact ⟨c, d, x, y, rfl, rfl, ⟨hs.1, hs.2.1⟩, ⟨h.1, h.2.1⟩, h.2.2.1, h.2.2.2.1⟩
  | .cons c (.cons d .nil), [], _, _, h => exact h.elim
  | .cons c (.cons d .nil), [_], _, _, h => exact h.2.2.elim
  | .cons c (.cons d .nil), _ :: _ :: _ :: _, _, _, h => exact h.2.2.2.2.elim
  | .cons c .nil, _, hl, _, _ => simp [Cs.len] at hl
  | .cons c (.cons _ (.cons _ _)), _, hl, _, _ => simp [Cs.len] at hl
theorem three_of {X : Cx} {its : Cs} {es : List Expr} (hl : its.len = 3) (hs : shCs its = true) (h : PEs Φ X its es) : ∃ c d e x y z, its = .cons c (.cons d (.cons e .nil)) ∧ es = [x, y, z] ∧ (shC c = true ∧ shC d = true ∧ shC e = true) ∧ (PE X x (tCe Φ c) ∧ nsE x = true) ∧ (PE X y (tCe Φ d) ∧ nsE y = true) ∧ PE X z (tCe Φ e) ∧ nsE z = true := by
  match its, es, hl, hs, h with
  | .cons c (.cons d (.cons e .nil)), [x, y, z], _, hs, h =>
    simp only [shCs, Bool.and_eq_true] at hs
    exact ⟨c, d, e, x, y, z, rfl, rfl, ⟨hs.1, hs.2.1, hs.2.2.1⟩, ⟨h.1, h.2.1⟩, ⟨h.2.2.1, h.2.2.2.1⟩, h.2.2.2.2.1, h.2.2.2.2.2.1⟩
  | .cons c (.cons d (.cons e .nil)), [], _, _, h => exact h.elim
  | .cons c (.cons d (.cons e .nil)), [_], _, _, h => exact h.2.2.elim
  | .cons c (.cons d (.cons e .nil)), [_, _], _, _, h => exact h.2.2.2.2.elim
  | .cons c (.cons d (.cons e .nil)), _ :: _ :: _ :: _ :: _, _, _, h => exact h.2.2.2.2.2.2.elim
  | .nil, _, hl, _, _ => simp [Cs.len] at hl
  | .cons c .nil, _, hl, _, _ => simp [Cs.len] at hl
  | .cons c (.cons _ .nil), _, hl, _, _ => simp [Cs.len] at hl
  | .cons c (.cons _ (.cons _ (.cons _ _))), _, hl, _, _ => simp [Cs.len] at hl
theorem it_of (hΦ : Φ.Mono) {X : Cx} {sc : Scope} {k : Ik} {its : Cs} {tg iter : Expr} {q : List Expr → Bool} (S : SX Φ cf N sc X) (h : chkIt cf sc k its tg iter q = true) (hs : shCs its = true) (hq : ∀ es, q es = true → PEs Φ X its es) : PI X tg iter (tIt Φ k its) := by
  cases k <;> simp only [chkIt] at h
  · obtain ⟨h1, h3⟩ := and_t h
    obtain ⟨h1, h2⟩ := and_t h1
    obtain ⟨c, x, rfl, ee, e1, e2, e3⟩ := one_of (of_decide_eq_true h2) hs (hq _ h3)
    cases ee
    exact ie_seq hΦ e1 e2
  · split at h
    · rename_i x p args pos
      obtain ⟨h1, h3⟩ := and_t h
      obtain ⟨h1, h2⟩ := and_t h1
      obtain ⟨h1, h0⟩ := and_t h1
      obtain ⟨rfl, g1, m1⟩ := S.blt h1
      have hl := of_decide_eq_true h0
      rw [Bool.or_eq_true, decide_eq_true_eq, decide_eq_true_eq] at h2
      rcases h2 with h2 | h2
      · obtain ⟨c, x, rfl, rfl, e1, e2, e3⟩ := one_of (hl.trans h2) hs (hq _ h3)
        exact ie_rng1 hΦ e1 g1 m1 e2 (star_cons e3)
      · obtain ⟨c, d, x, y, rfl, rfl, e1, e2, e3⟩ := two_of (hl.trans h2) hs (hq _ h3)
        exact ie_rng2 hΦ e1.1 e1.2 g1 m1 e2.1 e3.1 (star_cons e2.2) (star_cons e3.2)
    · cases h
  · split at h
    · rename_i x p args pos
      obtain ⟨h1, h3⟩ := and_t h
      obtain ⟨h1, h2⟩ := and_t h1
      obtain ⟨h1, h0⟩ := and_t h1
      obtain ⟨h1, hb⟩ := and_t h1
      obtain ⟨rfl, g1, m1⟩ := S.blt hb
      obtain ⟨c, x, rfl, rfl, e1, e2, e3⟩ := one_of (of_decide_eq_true h0) hs (hq _ h3)
      cases tg <;> first | exact (Bool.false_ne_true h1).elim | skip
      exact ie_enum hΦ e1 g1 m1 e2 (star_cons e3)
    · cases h
  · split at h
    · rename_i x p args pos
      obtain ⟨h1, h3⟩ := and_t h
      obtain ⟨h1, h2⟩ := and_t h1
      obtain ⟨h1, h0⟩ := and_t h1
      obtain ⟨h1, hb⟩ := and_t h1
      obtain ⟨rfl, g1, m1⟩ := S.blt hb
      obtain ⟨c, d, x, y, rfl, rfl, e1, e2, e3⟩ := two_of (of_decide_eq_true h0) hs (hq _ h3)
      cases tg <;> first | exact (Bool.false_ne_true h1).elim | skip
      exact ie_zip hΦ e1.1 e1.2 g1 m1 e2.1 e3.1 (star_cons e2.2) (star_cons e3.2)
    · cases h
  · split at h
    · rename_i x p args pos
      obtain ⟨h1, h3⟩ := and_t h
      obtain ⟨h1, h0⟩ := and_t h1
      obtain ⟨hb, hl3⟩ := and_t h1
      obtain ⟨rfl, g1, m1⟩ := S.blt hb
      obtain ⟨c, d, e, x, y, z, rfl, rfl, e1, e2, e3, e4⟩ := three_of (of_decide_eq_true hl3) hs (hq _ h3)
      exact ie_rng3 hΦ e1.1 e1.2.1 e1.2.2 g1 m1 e2.1 e3.1 e4.1 (star_cons e2.2) (star_cons e3.2) (star_cons e4.2)
    · cases h
theorem comp_parts (hΦ : Φ.Mono) {X : Cx} {sc : Scope} {e : Expr} {vs : List Nat} {t : Tg} {k : Ik} {its : Cs} {cond : T} {elt : C} (S : SX Φ cf N sc X) (h : chkC N cf (.comp vs t k its cond elt) sc e = true)
    (Hi : ∀ {X : Cx} {sc : Scope} {es : List Expr}, SX Φ cf N sc X → chkCs N cf its sc es = true → PEs Φ X its es) (Hc : ∀ {X : Cx} {sc : Scope} {e : Expr}, SX Φ cf N sc X → chkT N cf cond sc e = true → PT X e (tTe Φ cond))
    (He : ∀ {X : Cx} {sc : Scope} {e : Expr}, SX Φ cf N sc X → chkC N cf elt sc e = true → PE X e (tCe Φ elt)) :
    ∃ e1 tg iter ifs scope pos, e = .ListComp e1 [⟨tg, iter, ifs, 0⟩] scope pos ∧ PI X tg iter (tIt Φ k its) ∧ BlkOk X.N X.env.scope scope (ownL N vs) ∧ (ownL N vs).map (·.2) = vs ∧
      (∀ (s : Shared) (H : Hp) (C : Addr) (cl : List (Str × Addr)) (fp : List Addr), PG (X.blk s H scope (compEnvC scope cl C X.env) fp) tg (gTe t)) ∧
      (∀ (s : Shared) (H : Hp) (C : Addr) (cl : List (Str × Addr)) (fp : List Addr), PTs (X.blk s H scope (compEnvC scope cl C X.env) fp) ifs (tTe Φ cond)) ∧
      (∀ (s : Shared) (H : Hp) (C : Addr) (cl : List (Str × Addr)) (fp : List Addr), PE (X.blk s H scope (compEnvC scope cl C X.env) fp) e1 (tCe Φ elt)) ∧
      (∀ v, foldedSetIterable iter X.env v = pure v) ∧ (∀ i, i ∈ t.slots → i ∈ vs) ∧ shC elt = true := by
  simp only [chkC] at h
  split at h
  · rename_i e1 tg iter ifs as scope pos
    obtain ⟨h1, h3⟩ := and_t h
    obtain ⟨h1, h2⟩ := and_t h1
    obtain ⟨h1, hit⟩ := and_t h1
    obtain ⟨h1, htg⟩ := and_t h1
    obtain ⟨h1, hsi⟩ := and_t h1
    obtain ⟨h1, hse⟩ := and_t h1
    obtain ⟨h1, hts⟩ := and_t h1
    obtain ⟨h1, hb⟩ := and_t h1
    have has := of_decide_eq_true h1
    subst has
    refine ⟨e1, tg, iter, ifs, scope, pos, rfl, it_of hΦ S hit hsi fun es hq => Hi S hq, by rw [S.eN, S.sc]; exact blkOk_by hb, by unfold ownL; rw [List.map_map]; exact List.map_id _, fun s H C cl fp => ?_, fun s H C cl fp => ?_, fun s H C cl fp => He (S.blk scope s H C cl fp) h3, fold_it hit, fun i hi => of_decide_eq_true (List.all_eq_true.mp hts i hi), hse⟩
    · refine tg_of (X := X.blk s H scope (compEnvC scope cl C X.env) fp) (N := N) (sc := scope) (fun x hx => ?_) S.calm S.eN S.nd t htg
      have := lB_blk (sc := sc) hx
      rw [← S.sc] at this
      exact this
    · split at h2
      · split at h2
        · refine ⟨fun pins s σ H Q I q => pts_nil.run pins s σ H Q I ?_⟩
          obtain ⟨Z, F, ε, fp, hi, st, h⟩ := q
          simp only [evT] at h
          exact h F H fp (Gr.refl hi) st
        · cases h2
      · exact pts_one (Hc (S.blk scope s H C cl fp) h2)
      · cases h2
  · cases h
variable (hΦ : Φ.Mono)
include hΦ
mutual
theorem pe_of : ∀ (c : C) {X : Cx} {sc : Scope} {e : Expr}, SX Φ cf N sc X → chkC N cf c sc e = true → PE X e (tCe Φ c)
  | .rd p, X, sc, e, S, h => by
    simp only [chkC] at h
    split at h
    · obtain ⟨h1, h3⟩ := and_t h
      obtain ⟨h1, h2⟩ := and_t h1
      exact ce_rd (by rw [S.eN]; exact of_decide_eq_true h1) (by rw [S.sc]; exact vis_of h2) (nB_of h3).1 (nB_of h3).2
    · cases h
  | .own p, X, sc, e, S, h => by
    simp only [chkC] at h
    split at h
    · obtain ⟨h1, h3⟩ := and_t h
      obtain ⟨h1, h2⟩ := and_t h1
      exact ce_own (by rw [S.eN]; exact of_decide_eq_true h1) (by rw [S.sc]; exact vis_of h2) (nB_of h3).1 (nB_of h3).2
    · cases h
  | .int n, X, sc, e, S, h => by
    simp only [chkC] at h
    split at h
    · obtain rfl := of_decide_eq_true h; exact ce_int
    · cases h
  | .bl n, X, sc, e, S, h => by
    simp only [chkC] at h
    split at h
    · obtain rfl := of_decide_eq_true h; exact ce_bl
    · cases h
  | .non, X, sc, e, S, h => by
    simp only [chkC] at h
    split at h
    · exact ce_non
    · cases h
  | .str n, X, sc, e, S, h => by
    simp only [chkC] at h
    split at h
    · obtain rfl := of_decide_eq_true h; exact ce_str
    · cases h
  | .tup es, X, sc, e, S, h => by
    simp only [chkC] at h
    split at h
    · obtain ⟨h1, h3⟩ := and_t h
      obtain ⟨h1, h2⟩ := and_t h1
      exact ce_tup hΦ h1 (of_decide_eq_true h2) (cs_length h3) (pa_of es S h3)
    · cases h
  | .lst es, X, sc, e, S, h => by
    simp only [chkC] at h
    split at h
    · obtain ⟨h1, h3⟩ := and_t h
      obtain ⟨h1, h2⟩ := and_t h1
      exact ce_lst hΦ h1 (of_decide_eq_true h2) (cs_length h3) (pa_of es S h3)
    · cases h
  | .dnew t, X, sc, e, S, h => by
    simp only [chkC] at h
    split at h
    · exact ce_dnew hΦ
    · cases h
  | .op o a b, X, sc, e, S, h => by
    simp only [chkC] at h
    split at h
    · obtain ⟨h1, h3⟩ := and_t h
      obtain ⟨h1, h2⟩ := and_t h1
      exact ce_bin hΦ (of_decide_eq_true h1) (pe_of a S h2) (pe_of b S h3)
    · obtain ⟨h1, h3⟩ := and_t h
      obtain ⟨h1, h2⟩ := and_t h1
      obtain ⟨h1, h0⟩ := and_t h1
      exact ce_cmp hΦ S.un (of_decide_eq_true h1) (pe_of a S h2) (pe_of b S h3) (notFr h0)
    · cases h
  | .un o a, X, sc, e, S, h => by
    simp only [chkC] at h
    split at h
    · exact ce_neg hΦ (pe_of a S h)
    · exact ce_nt hΦ (pe_of a S h)
    · exact ce_isN hΦ (pe_of a S h)
    · exact ce_notN hΦ (pe_of a S h)
    · cases h
  | .chain o p a b c, X, sc, e, S, h => by
    simp only [chkC] at h
    split at h
    · obtain ⟨h1, h3⟩ := and_t h
      obtain ⟨h1, h2⟩ := and_t h1
      obtain ⟨h1, h0⟩ := and_t h1
      obtain ⟨h1, hm⟩ := and_t h1
      obtain ⟨h1, hp⟩ := and_t h1
      exact ce_chain hΦ S.un (of_decide_eq_true h1) (of_decide_eq_true hp) (pe_of a S h0) (pe_of b S h2) (pe_of c S h3) (notFr hm)
    · cases h
  | .nd a b, X, sc, e, S, h => by
    simp only [chkC] at h
    split at h
    · obtain ⟨h1, h3⟩ := and_t h
      obtain ⟨h1, h2⟩ := and_t h1
      obtain ⟨h1, h0⟩ := and_t h1
      split at h3
      · exact ce_nd hΦ (pe_of a S h2) (pe_one (pe_of b S h3)) h1 (notFr h0)
      · exact ce_nd hΦ (pe_of a S h2) (pe_of b S h3) h1 (notFr h0)
    · cases h
  | .or a b, X, sc, e, S, h => by
    simp only [chkC] at h
    split at h
    · obtain ⟨h1, h3⟩ := and_t h
      obtain ⟨h1, h2⟩ := and_t h1
      obtain ⟨h1, h0⟩ := and_t h1
      split at h3
      · exact ce_or hΦ (pe_of a S h2) (pe_one (pe_of b S h3)) h1 (notFr h0)
      · exact ce_or hΦ (pe_of a S h2) (pe_of b S h3) h1 (notFr h0)
    · cases h
  | .ite t a b, X, sc, e, S, h => by
    simp only [chkC] at h
    split at h
    · obtain ⟨h1, h3⟩ := and_t h
      obtain ⟨h1, h2⟩ := and_t h1
      obtain ⟨h1, h0⟩ := and_t h1
      obtain ⟨h1, hp⟩ := and_t h1
      exact ce_ite hΦ (pt_of t S h0) (pe_of a S h2) (pe_of b S h3) h1 hp
    · cases h
  | .idx a i, X, sc, e, S, h => by
    simp only [chkC] at h
    split at h
    · obtain ⟨h1, h3⟩ := and_t h
      obtain ⟨h1, h2⟩ := and_t h1
      exact ce_idx hΦ (by have := S.un; omega) (plain_of h1) (pe_of a S h2) (pe_of i S h3)
    · cases h
  | .slc a lo hi, X, sc, e, S, h => by
    simp only [chkC] at h
    split at h
    · obtain ⟨h1, h3⟩ := and_t h
      obtain ⟨h1, h2⟩ := and_t h1
      exact ce_slc hΦ (pe_of a S h1) (po_of lo S h2) (po_of hi S h3)
    · cases h
  | .rev a, X, sc, e, S, h => by
    simp only [chkC] at h
    split at h
    · obtain ⟨h1, h2⟩ := and_t h
      obtain rfl := of_decide_eq_true h1
      exact ce_rev hΦ (pe_of a S h2)
    · cases h
  | .cl f es, X, sc, e, S, h => by
    simp only [chkC] at h
    split at h
    · rename_i x p args pos
      split at h
      · rename_i y n hf
        obtain ⟨h1, h3⟩ := and_t h
        obtain ⟨h1, h2⟩ := and_t h1
        obtain ⟨h1, h0⟩ := and_t h1
        obtain ⟨h1, hg⟩ := and_t h1
        obtain ⟨h1, hne⟩ := and_t h1
        obtain ⟨h1, hl⟩ := and_t h1
        have hxy := of_decide_eq_true h1
        subst hxy
        obtain ⟨k, fa, fd, ps, m1, m2, m3, m4, m5⟩ := S.fns _ _ _ hf
        obtain ⟨x1, xs, rfl⟩ := List.exists_cons_of_ne_nil (of_decide_eq_true hne)
        have hh := ns_hd (c := .non) (env := X.env) h3
        exact ce_cl hΦ h2 (of_decide_eq_true hl) (cs_length h3) m5 m4 (S.gl hg) m1 m2 m3 (pa_of es S h3) (nB_of h0).1 hh.1 (hh.2 _)
      · cases h
    · cases h
  | .bi f es, X, sc, e, S, h => by
    simp only [chkC] at h
    split at h
    · rename_i x p args pos
      split at h
      · split at h
        · rename_i y p2 as p3
          obtain ⟨h1, h3⟩ := and_t h
          obtain ⟨h1, hl⟩ := and_t h1
          obtain ⟨h1, h2⟩ := and_t h1
          obtain ⟨rfl, g1, m1⟩ := S.blt h1
          obtain ⟨rfl, g2, m2⟩ := S.blt h2
          match es, as, of_decide_eq_true hl, h3 with
          | .cons c .nil, [z], _, h3 =>
            simp only [chkCs] at h3
            obtain ⟨h1, h3⟩ := and_t h3
            obtain ⟨h1, h2⟩ := and_t h1
            exact ce_sortset hΦ S.calm g1 m1 g2 m2 (pe_of c S h2) (star_cons h1)
          | .nil, [z], _, h3 => simp [chkCs] at h3
          | .cons c (.cons c2 r), [z], _, h3 => simp [chkCs] at h3
        · cases h
      · split at h
        · rename_i y p2 as p3
          obtain ⟨h1, h3⟩ := and_t h
          obtain ⟨h1, hl⟩ := and_t h1
          obtain ⟨h1, h2⟩ := and_t h1
          obtain ⟨rfl, g1, m1⟩ := S.blt h1
          obtain ⟨rfl, g2, m2⟩ := S.blt h2
          match es, as, of_decide_eq_true hl, h3 with
          | .cons c .nil, [z], _, h3 =>
            simp only [chkCs] at h3
            obtain ⟨h1, h3⟩ := and_t h3
            obtain ⟨h1, h2⟩ := and_t h1
            exact ce_listrng hΦ S.calm g1 m1 g2 m2 (pe_of c S h2) (star_cons h1)
          | .nil, [z], _, h3 => simp [chkCs] at h3
          | .cons c (.cons c2 r), [z], _, h3 => simp [chkCs] at h3
        · cases h
      · split at h
        · rename_i y p2 as p3
          obtain ⟨h1, h3⟩ := and_t h
          obtain ⟨h1, hl⟩ := and_t h1
          obtain ⟨h1, h2⟩ := and_t h1
          obtain ⟨rfl, g1, m1⟩ := S.blt h1
          obtain ⟨rfl, g2, m2⟩ := S.blt h2
          match es, as, of_decide_eq_true hl, h3 with
          | .cons c .nil, [z], _, h3 =>
            simp only [chkCs] at h3
            obtain ⟨h1, h3⟩ := and_t h3
            obtain ⟨h1, h2⟩ := and_t h1
            exact ce_tuprng hΦ S.calm g1 m1 g2 m2 (pe_of c S h2) (star_cons h1)
          | .nil, [z], _, h3 => simp [chkCs] at h3
          | .cons c (.cons c2 r), [z], _, h3 => simp [chkCs] at h3
        · cases h
      · split at h
        · rename_i ty n hf
          obtain ⟨h1, h3⟩ := and_t h
          obtain ⟨h1, hne⟩ := and_t h1
          obtain ⟨rfl, hg, hm⟩ := S.blt h1
          obtain ⟨x1, xs, rfl⟩ := List.exists_cons_of_ne_nil (of_decide_eq_true hne)
          have hh := ns_hd (c := .non) (env := X.env) h3
          exact ce_bi hΦ hf S.calm hg hm (pa_of es S h3) hh.1 (hh.2 _)
        · cases h
    · cases h
  | .mt m a es, X, sc, e, S, h => by
    simp only [chkC] at h
    split at h
    · rename_i x nm apos args pos
      obtain ⟨h1, h3⟩ := and_t h
      obtain ⟨h1, h2⟩ := and_t h1
      obtain ⟨h1, hl⟩ := and_t h1
      obtain ⟨h1, hp⟩ := and_t h1
      obtain ⟨h1, hb⟩ := and_t h1
      have hnm := of_decide_eq_true h1
      subst hnm
      match es, args, of_decide_eq_true hl, h3 with
      | .cons c .nil, [z], _, h3 =>
        simp only [chkCs] at h3
        obtain ⟨h1, h3⟩ := and_t h3
        obtain ⟨h1, h4⟩ := and_t h1
        exact ce_index hΦ S.un (pe_of a S h2) (pe_of c S h4) (base_of hb) (star_cons h1) hp
      | .nil, [z], _, h3 => simp [chkCs] at h3
      | .cons c (.cons c2 r), [z], _, h3 => simp [chkCs] at h3
    · rename_i x nm apos args pos
      obtain ⟨h1, h3⟩ := and_t h
      obtain ⟨h1, h2⟩ := and_t h1
      obtain ⟨h1, h12⟩ := and_t h1
      obtain ⟨h1, hfr⟩ := and_t h1
      obtain ⟨h1, hsh⟩ := and_t h1
      obtain ⟨h1, hp⟩ := and_t h1
      obtain ⟨h1, hb⟩ := and_t h1
      have hnm := of_decide_eq_true h1
      subst hnm
      match es, args, h12, hsh, hfr, h3 with
      | .cons c .nil, [z], _, hsh, hfr, h3 =>
        simp only [chkCs] at h3
        obtain ⟨h5, h6⟩ := and_t h3
        obtain ⟨h5, h4⟩ := and_t h5
        simp only [shCs, noFr, Bool.and_true, Bool.not_eq_true'] at hsh hfr
        exact ce_get1 hΦ (by have := S.un; omega) (pe_of a S h2) (pe_of c S h4) hsh hfr ⟨base_of hb, by rw [star_cons h5]; rfl, hp, by rw [star_cons h5]; rfl⟩
      | .cons c (.cons d .nil), [z, z'], _, hsh, hfr, h3 =>
        simp only [chkCs] at h3
        obtain ⟨h5, h6⟩ := and_t h3
        obtain ⟨h5, h4⟩ := and_t h5
        obtain ⟨h6, _⟩ := and_t h6
        obtain ⟨h6, h7⟩ := and_t h6
        simp only [shCs, noFr, Bool.and_true, Bool.and_eq_true, Bool.not_eq_true'] at hsh hfr
        exact ce_get2 hΦ (by have := S.un; omega) (pe_of a S h2) (pe_of c S h4) (pe_of d S h7) hsh.1 hfr.1 hsh.2 hfr.2 ⟨base_of hb, by rw [star_cons h5, star_cons h6]; rfl, hp, by rw [star_cons h5, star_cons h6]; rfl⟩
      | .nil, _, h12, _, _, _ => exact (by simp [es12] at h12)
      | .cons c .nil, [], h12, _, _, _ => exact (by simp [es12] at h12)
      | .cons c .nil, _ :: _ :: _, h12, _, _, _ => exact (by simp [es12] at h12)
      | .cons c (.cons d .nil), [], h12, _, _, _ => exact (by simp [es12] at h12)
      | .cons c (.cons d .nil), [_], h12, _, _, _ => exact (by simp [es12] at h12)
      | .cons c (.cons d .nil), _ :: _ :: _ :: _, h12, _, _, _ => exact (by simp [es12] at h12)
      | .cons c (.cons d (.cons _ _)), _, h12, _, _, _ => exact (by simp [es12] at h12)
    · cases h
  | .comp vs t k its cond elt, X, sc, e, S, h => by
    obtain ⟨e1, tg, iter, ifs, scope, pos, rfl, hi, ok, hv, hg, ht, he, hf, hs, hse⟩ := comp_parts hΦ S h (fun S h => pes_of its S h) (fun S h => pt_of cond S h) (fun S h => pe_of elt S h)
    have := pe_lc S.calm (by rw [S.eN]; exact S.nd) hi ok hg ht he hf (pos := pos)
    rw [hv] at this
    exact this.imp fun σ H Q q => comp_core hΦ hs hse q
theorem pes_of : ∀ (cs : Cs) {X : Cx} {sc : Scope} {es : List Expr}, SX Φ cf N sc X → chkCs N cf cs sc es = true → PEs Φ X cs es
  | .nil, X, sc, es, S, h => by
    simp only [chkCs] at h
    split at h
    · trivial
    · cases h
  | .cons c r, X, sc, es, S, h => by
    simp only [chkCs] at h
    split at h
    · obtain ⟨h1, h3⟩ := and_t h
      obtain ⟨h1, h2⟩ := and_t h1
      exact ⟨pe_of c S h2, h1, pes_of r S h3⟩
    · cases h
theorem pa_of : ∀ (cs : Cs) {X : Cx} {sc : Scope} {es : List Expr}, SX Φ cf N sc X → chkCs N cf cs sc es = true → PA X es (tCs Φ cs)
  | .nil, X, sc, es, S, h => by
    simp only [chkCs] at h
    split at h
    · exact cs_nil
    · cases h
  | .cons c r, X, sc, es, S, h => by
    simp only [chkCs] at h
    split at h
    · obtain ⟨h1, h3⟩ := and_t h
      obtain ⟨h1, h2⟩ := and_t h1
      exact cs_cons hΦ (pe_of c S h2) (pa_of r S h3) (star_cons h1)
    · cases h
theorem pt_of : ∀ (t : T) {X : Cx} {sc : Scope} {e : Expr}, SX Φ cf N sc X → chkT N cf t sc e = true → PT X e (tTe Φ t)
  | .v (.op o a b), X, sc, e, S, h => by
    simp only [chkT] at h
    obtain ⟨h1, h2⟩ := and_t h
    have hp := pe_of (.op o a b) S h2
    by_cases hc : ∃ l o r p, e = .Compare l o r p
    · obtain ⟨l, o', r, p, rfl⟩ := hc
      simp only [chkC] at h2
      split at h2
      · rename_i he; cases he
      · rename_i he
        cases he
        obtain ⟨h1, h3⟩ := and_t h2
        obtain ⟨h1, h2⟩ := and_t h1
        obtain ⟨h1, h0⟩ := and_t h1
        exact te_cmp hΦ S.un (of_decide_eq_true h1) (pe_of a S h2) (pe_of b S h3) (notFr h0)
      · cases h2
    · exact te_v hΦ hp (tv_of h1 fun l o r p e => hc ⟨l, o, r, p, e⟩)
  | .v (.chain o o2 a b c), X, sc, e, S, h => by
    simp only [chkT] at h
    obtain ⟨h1, h2⟩ := and_t h
    simp only [chkC] at h2
    split at h2
    · obtain ⟨h1, h3⟩ := and_t h2
      obtain ⟨h1, h2⟩ := and_t h1
      obtain ⟨h1, h0⟩ := and_t h1
      obtain ⟨h1, hm⟩ := and_t h1
      obtain ⟨h1, hp⟩ := and_t h1
      exact te_chain hΦ S.un (of_decide_eq_true h1) (of_decide_eq_true hp) (pe_of a S h0) (pe_of b S h2) (pe_of c S h3) (notFr hm)
    · cases h2
  | .v (.un o a), X, sc, e, S, h => by
    simp only [chkT] at h
    obtain ⟨h1, h2⟩ := and_t h
    have hp := pe_of (.un o a) S h2
    by_cases hc : ∃ l o r p, e = .Compare l o r p
    · obtain ⟨l, o', r, p, rfl⟩ := hc
      simp only [chkC] at h2
      split at h2
      · rename_i he; cases he
      · rename_i he; cases he
      · rename_i he; cases he; exact te_isN hΦ (pe_of a S h2)
      · rename_i he; cases he; exact te_notN hΦ (pe_of a S h2)
      · cases h2
    · exact te_v hΦ hp (tv_of h1 fun l o r p e => hc ⟨l, o, r, p, e⟩)
  | .v (.rd p), X, sc, e, S, h => by
    simp only [chkT] at h
    exact te_v hΦ (pe_of (.rd p) S (and_t h).2) (tv_of (and_t h).1 (by rintro _ _ _ _ rfl; exact Bool.false_ne_true (and_t h).1))
  | .v (.own p), X, sc, e, S, h => by
    simp only [chkT] at h
    exact te_v hΦ (pe_of (.own p) S (and_t h).2) (tv_of (and_t h).1 (by rintro _ _ _ _ rfl; exact Bool.false_ne_true (and_t h).1))
  | .v (.int n), X, sc, e, S, h => by
    simp only [chkT] at h
    exact te_v hΦ (pe_of (.int n) S (and_t h).2) (tv_of (and_t h).1 (by rintro _ _ _ _ rfl; exact Bool.false_ne_true (and_t h).1))
  | .v (.bl n), X, sc, e, S, h => by
    simp only [chkT] at h
    exact te_v hΦ (pe_of (.bl n) S (and_t h).2) (tv_of (and_t h).1 (by rintro _ _ _ _ rfl; exact Bool.false_ne_true (and_t h).1))
  | .v (.non), X, sc, e, S, h => by
    simp only [chkT] at h
    exact te_v hΦ (pe_of (.non) S (and_t h).2) (tv_of (and_t h).1 (by rintro _ _ _ _ rfl; exact Bool.false_ne_true (and_t h).1))
  | .v (.str n), X, sc, e, S, h => by
    simp only [chkT] at h
    exact te_v hΦ (pe_of (.str n) S (and_t h).2) (tv_of (and_t h).1 (by rintro _ _ _ _ rfl; exact Bool.false_ne_true (and_t h).1))
  | .v (.tup a), X, sc, e, S, h => by
    simp only [chkT] at h
    exact te_v hΦ (pe_of (.tup a) S (and_t h).2) (tv_of (and_t h).1 (by rintro _ _ _ _ rfl; exact Bool.false_ne_true (and_t h).1))
  | .v (.lst a), X, sc, e, S, h => by
    simp only [chkT] at h
    exact te_v hΦ (pe_of (.lst a) S (and_t h).2) (tv_of (and_t h).1 (by rintro _ _ _ _ rfl; exact Bool.false_ne_true (and_t h).1))
  | .v (.nd a b), X, sc, e, S, h => by
    simp only [chkT] at h
    exact te_v hΦ (pe_of (.nd a b) S (and_t h).2) (tv_of (and_t h).1 (by rintro _ _ _ _ rfl; exact Bool.false_ne_true (and_t h).1))
  | .v (.or a b), X, sc, e, S, h => by
    simp only [chkT] at h
    exact te_v hΦ (pe_of (.or a b) S (and_t h).2) (tv_of (and_t h).1 (by rintro _ _ _ _ rfl; exact Bool.false_ne_true (and_t h).1))
  | .v (.ite a b c), X, sc, e, S, h => by
    simp only [chkT] at h
    exact te_v hΦ (pe_of (.ite a b c) S (and_t h).2) (tv_of (and_t h).1 (by rintro _ _ _ _ rfl; exact Bool.false_ne_true (and_t h).1))
  | .v (.dnew t), X, sc, e, S, h => by
    simp only [chkT] at h
    exact te_v hΦ (pe_of (.dnew t) S (and_t h).2) (tv_of (and_t h).1 (by rintro _ _ _ _ rfl; exact Bool.false_ne_true (and_t h).1))
  | .v (.idx a b), X, sc, e, S, h => by
    simp only [chkT] at h
    exact te_v hΦ (pe_of (.idx a b) S (and_t h).2) (tv_of (and_t h).1 (by rintro _ _ _ _ rfl; exact Bool.false_ne_true (and_t h).1))
  | .v (.slc a b c), X, sc, e, S, h => by
    simp only [chkT] at h
    exact te_v hΦ (pe_of (.slc a b c) S (and_t h).2) (tv_of (and_t h).1 (by rintro _ _ _ _ rfl; exact Bool.false_ne_true (and_t h).1))
  | .v (.rev a), X, sc, e, S, h => by
    simp only [chkT] at h
    exact te_v hΦ (pe_of (.rev a) S (and_t h).2) (tv_of (and_t h).1 (by rintro _ _ _ _ rfl; exact Bool.false_ne_true (and_t h).1))
  | .v (.cl a b), X, sc, e, S, h => by
    simp only [chkT] at h
    exact te_v hΦ (pe_of (.cl a b) S (and_t h).2) (tv_of (and_t h).1 (by rintro _ _ _ _ rfl; exact Bool.false_ne_true (and_t h).1))
  | .v (.bi a b), X, sc, e, S, h => by
    simp only [chkT] at h
    exact te_v hΦ (pe_of (.bi a b) S (and_t h).2) (tv_of (and_t h).1 (by rintro _ _ _ _ rfl; exact Bool.false_ne_true (and_t h).1))
  | .v (.mt a b c), X, sc, e, S, h => by
    simp only [chkT] at h
    exact te_v hΦ (pe_of (.mt a b c) S (and_t h).2) (tv_of (and_t h).1 (by rintro _ _ _ _ rfl; exact Bool.false_ne_true (and_t h).1))
  | .v (.comp a b c d e f), X, sc, ex, S, h => by
    simp only [chkT] at h
    exact te_v hΦ (pe_of (.comp a b c d e f) S (and_t h).2) (tv_of (and_t h).1 (by rintro _ _ _ _ rfl; exact Bool.false_ne_true (and_t h).1))
  | .nt a, X, sc, e, S, h => by
    simp only [chkT] at h
    split at h
    · exact te_nt hΦ (pt_of a S h)
    · cases h
  | .nd a b, X, sc, e, S, h => by
    simp only [chkT] at h
    split at h
    · obtain ⟨h1, h3⟩ := and_t h
      split at h3
      · exact (tw_nd1 hΦ (pt_of a S h1) (pt_of b S h3)).pt
      · exact (tw_nd hΦ (pt_of a S h1) (bw_of (pt_of b S h3))).pt
    · cases h
  | .or a b, X, sc, e, S, h => by
    simp only [chkT] at h
    split at h
    · obtain ⟨h1, h3⟩ := and_t h
      split at h3
      · exact (tw_or1 hΦ (pt_of a S h1) (pt_of b S h3)).pt
      · exact (tw_or hΦ (pt_of a S h1) (bw_of (pt_of b S h3))).pt
    · cases h
  | .yes, X, sc, e, S, h => by
    simp only [chkT] at h
    cases h
theorem po_of : ∀ (o : O) {X : Cx} {sc : Scope} {e : Option Expr}, SX Φ cf N sc X → chkO N cf o sc e = true → PO X e (tOe Φ o)
  | .no, X, sc, e, S, h => by
    simp only [chkO] at h
    split at h
    · exact oe_no
    · cases h
  | .so c, X, sc, e, S, h => by
    simp only [chkO] at h
    split at h
    · exact oe_so hΦ (pe_of c S h)
    · cases h
end
end
end Ev
/-! Ev12: a code is a block of statements -/
namespace Ev
open PySem PySem.Spec PyProof.Rows L2
def isFn : Scope → Bool := fun sc => match sc.kind with
  | .function => true
  | _ => false
def locB (sc : Scope) (x : Str) : Bool := decide (sc.names.lookup x = some .local)
def isSeqE : Expr → Bool
  | .Tuple .. => true
  | .List .. => true
  | _ => false
/-- name = [..] is stored by the comprehension itself -/
def swB (sc scope : Scope) (y : Str) (py pos : Pos) : Bool :=
  locB sc y && (py.line == pos.line) && !(scope.names.any fun (n, k) => n == y && (k == .local || k == .cell))
def isComp : C → Bool
  | .comp .. => true
  | _ => false
def asgB (N : List Str) (cf : Cfg) (sc : Scope) (i : Nat) (e : C) : Stmt → Bool
  | .Assign [.Name n _] v _ => decide (N[i]? = some n) && lB sc n && chkC N cf e sc v && (!(isLc v) || isComp e)
  | _ => false
/-- targets that are not stored swapped -/
def ssN (sc : Scope) : Expr → Bool
  | .Tuple ts _ _ => !(ts.length == 2 || ts.length == 3) || ts.any fun
    | .Name id _ => !(locB sc id)
    | _ => true
  | _ => false
mutual
def chk1 (N : List Str) (cf : Cfg) (sc : Scope) : S → Stmt → Bool
  | .skip, _ => false
  | .seq _ _, _ => false
  | .frz _, _ => false
  | .asg i e, st => shC e && asgB N cf sc i e st
  | .asgO i e, st => frC e && asgB N cf sc i e st
  | .asgT t e, st => match st with
    | .Assign [tg] v _ => shC e && isTupE tg && (!(isSeqE v) || (match v with
      | .Tuple vs _ _ => (vs.all (foldedForSure 8) && !(vs.any fun | .Starred .. => true | _ => false)) || ssN sc tg
      | _ => false)) && !(isLc v) && chkTg N sc t tg && chkC N cf e sc v
    | _ => false
  | .par is es, st => match is, st with
    | [i, j], .Assign [.Tuple [.Name x px, .Name y py] _ _] (.Tuple vs _ _) _ => shCs es && decide (N[i]? = some x) && decide (N[j]? = some y) && !(x == y) && locB sc x && locB sc y && (px.line == py.line) && decide (vs.length = 2) && !(vs.all (foldedForSure 8)) && !(vs.all (constantsAlone 8)) && chkCs N cf es sc vs
    | [i, j, l], .Assign [.Tuple [.Name x px, .Name y py, .Name z pz] _ _] (.Tuple vs _ _) _ => shCs es && decide (N[i]? = some x) && decide (N[j]? = some y) && decide (N[l]? = some z) && !(x == y) && !(x == z) && !(y == z) && locB sc x && locB sc y && locB sc z && (px.line == py.line) && (px.line == pz.line) && decide (vs.length = 3) && !(vs.all (foldedForSure 8)) && !(vs.all (constantsAlone 8)) && chkCs N cf es sc vs
    | _, _ => false
  | .seti p ix e, st => match p, st with
    | .sl i, .Assign [.Subscript (.Name n _) y _] v _ => shC e && npE y && decide (N[i]? = some n) && vB sc n && nB n && chkC N cf e sc v && chkC N cf ix sc y
    | _, _ => false
  | .mut p m e, st => match p, m, st with
    | .sl i, .append, .Expr (.Call (.Attribute (.Name n _) nm apos) [x] [] cpos) _ => shC e && decide (nm = ("append" : Str)) && nsE x && decide (N[i]? = some n) && vB sc n && nB n && (apos.endLine == cpos.line) && chkC N cf e sc x
    | .sl i, .extend, .Expr (.Call (.Attribute (.Name n _) nm apos) [x] [] cpos) _ => decide (nm = ("extend" : Str)) && nsE x && decide (N[i]? = some n) && vB sc n && nB n && (apos.endLine == cpos.line) && chkC N cf e sc x
    | _, _, _ => false
  | .ifs t a b, st => match st with
    | .If x sa sb _ => chkT N cf t sc x && chkB N cf sc a sa && chkB N cf sc b sb
    | _ => false
  | .fr t k its b, st => match st with
    | .For tg iter body [] _ => shCs its && chkTg N sc t tg && chkIt cf sc k its tg iter (chkCs N cf its sc) && chkB N cf sc b body
    | _ => false
  | .whl t b, st => match st with
    | .While x body [] _ => chkT N cf t sc x && chkB N cf sc b body
    | _ => false
  | .ret e, st => match st with
    | .Return (some x) _ => shC e && chkC N cf e sc x
    | _ => false
  | .retN, st => match st with
    | .Return none _ => true
    | _ => false
  | .brk, st => match st with
    | .Break _ => true
    | _ => false
  | .cnt, st => match st with
    | .Continue _ => true
    | _ => false
  | .pas, st => match st with
    | .Pass _ => true
    | _ => false
  | .nev, _ => true
  | .exp e, st => match st with
    | .Expr x _ => !(isLc x) && chkC N cf e sc x
    | _ => false
def chkB (N : List Str) (cf : Cfg) (sc : Scope) : S → List Stmt → Bool
  | .skip, sts => match sts with
    | [] => true
    | _ => false
  | .seq a b, sts => match a with
    | .frz p => match p with
      | .sl _ => chkB N cf sc b sts
      | _ => false
    | .skip => false
    | .seq _ _ => false
    | a => match sts with
      | st :: r => chk1 N cf sc a st && chkB N cf sc b r
      | [] => false
  | _, _ => false
end
structure SF (Φ : Tab) (cf : Cfg) (N : List Str) (sc : Scope) (X : Cx) : Prop where
  x : SX Φ cf N sc X
  fn : ∀ y, X.fn y = true
  xe : X.xe = fun _ _ => False
  kd : sc.kind = .function
section
variable {Φ : Tab} {cf : Cfg} {N : List Str} {sc : Scope} {X : Cx}
theorem SF.bk (S : SF Φ cf N sc X) : X.env.blockKind = .function := by
  unfold Env.blockKind
  rw [S.x.sc, S.kd]; rfl
theorem sw_no {v : Expr} (h : isLc v = false) : ∀ {t l} {env : PySem.Env}, swapsWith v t l env = pure false := by
  intro t l env
  cases v <;> first | rfl | cases h
theorem sw_sub {v o i : Expr} {p : Pos} {l : Nat} {env : PySem.Env} : swapsWith v (some (.Subscript o i p)) l env = pure false := by
  cases v <;> rfl
theorem sw_eq (S : SF Φ cf N sc X) {elt : Expr} {gs : List Comprehension} {scope : Scope} {pos py : Pos} {y : Str} {l : Nat} : swapsWith (.ListComp elt gs scope pos) (some (.Name y py)) l X.env = pure (swB sc scope y py pos) := by
  have hk : X.env.kindOf y = sc.names.lookup y := by unfold Env.kindOf; rw [S.x.sc]
  unfold swapsWith swB locB
  simp only [S.bk, hk, Expr.pos]
  have : (sc.names.lookup y == some NameKind.local) = decide (sc.names.lookup y = some NameKind.local) := by
    by_cases h : sc.names.lookup y = some NameKind.local
    · rw [h]; rfl
    · rw [decide_eq_false h]
      cases e : sc.names.lookup y with
      | none => rfl
      | some k => rw [e] at h; cases k <;> first | rfl | exact absurd rfl h
  rw [this]
  rfl
theorem tgl (S : SF Φ cf N sc X) : ∀ x, lB sc x = true → Loc X.env.scope x ∧ (X.fn x = true ∨ X.env.scope.names.lookup x = some .local) := fun x h => ⟨by rw [S.x.sc]; exact loc_of h, .inl (S.fn x)⟩
theorem lookD (S : SF Φ cf N sc X) {y : Str} (h : locB sc y = true) : X.env.scope.names.lookup y = some .local := by rw [S.x.sc]; exact of_decide_eq_true h
theorem star_any : ∀ {cs : Cs} {es : List Expr}, chkCs N cf cs sc es = true → (es.any fun | .Starred .. => true | _ => false) = false
  | .nil, es, h => by
    simp only [chkCs] at h
    split at h
    · rfl
    · cases h
  | .cons c r, es, h => by
    simp only [chkCs] at h
    split at h
    · rename_i x xs
      obtain ⟨h1, h3⟩ := and_t h
      obtain ⟨h1, h2⟩ := and_t h1
      rw [List.any_cons, star_any h3]
      cases x <;> first | rfl | exact (Bool.false_ne_true h1).elim
    · cases h
theorem ss_none {tg v : Expr} {env : PySem.Env} (h : isSeqE v = false) : swappedStores [tg] v env = pure none := by
  cases v <;> first | (cases tg <;> rfl) | cases h
theorem ss_fold (S : SF Φ cf N sc X) {ts vs : List Expr} {k k2 p p2} (h1 : vs.all (foldedForSure 8) = true) (h2 : (vs.any fun | .Starred .. => true | _ => false) = false) : swappedStores [.Tuple ts k p] (.Tuple vs k2 p2) X.env = pure none := by
  unfold swappedStores
  simp only [h1, h2]
  split
  · rfl
  · split
    · rfl
    · simp only [Bool.false_eq_true, if_false, if_true]
      split <;> rfl
theorem fm_lt {α β : Type} {f : α → Option β} : ∀ {l : List α}, (∃ a ∈ l, f a = none) → (l.filterMap f).length < l.length
  | [], h => by obtain ⟨a, h, _⟩ := h; cases h
  | a :: l, h => by
    cases e : f a with
    | none => rw [List.filterMap_cons_none e]; exact Nat.lt_succ_of_le (List.length_filterMap_le _ _)
    | some b =>
      rw [List.filterMap_cons_some e]
      obtain ⟨x, hx, ex⟩ := h
      rcases List.mem_cons.mp hx with rfl | hx
      · rw [e] at ex; cases ex
      · exact Nat.succ_lt_succ (fm_lt ⟨x, hx, ex⟩)
theorem ss_cell (S : SF Φ cf N sc X) {ts vs : List Expr} {k k2 p p2} (h : ssN sc (.Tuple ts k p) = true) : swappedStores [.Tuple ts k p] (.Tuple vs k2 p2) X.env = pure none := by
  unfold swappedStores
  simp only []
  split
  · rfl
  · rename_i h1
    split
    · rfl
    · split
      · rfl
      · rename_i h3
        exfalso
        simp only [ssN, Bool.or_eq_true] at h
        rcases h with h | h
        · apply h1
          rw [h]; rfl
        · apply h3
          rw [Bool.or_eq_true]
          refine .inl ?_
          rw [bne_iff_ne]
          refine Nat.ne_of_lt (fm_lt ?_)
          obtain ⟨x, hx, ex⟩ := List.any_eq_true.mp h
          refine ⟨x, hx, ?_⟩
          cases x <;> try rfl
          rename_i id pp
          have hn : (X.env.kindOf id == some NameKind.local) = false := by
            have e1 : X.env.kindOf id = sc.names.lookup id := by unfold Env.kindOf; rw [S.x.sc]
            rw [e1]
            have e2 : locB sc id = false := notFr ex
            have e3 : ¬ sc.names.lookup id = some NameKind.local := of_decide_eq_false e2
            cases e : sc.names.lookup id with
            | none => rfl
            | some k => rw [e] at e3; cases k <;> first | rfl | exact absurd rfl e3
          simp only [hn, Bool.false_and, Bool.false_eq_true, if_false]
theorem ss_two (S : SF Φ cf N sc X) {x y : Str} {px py pt pt2 : Pos} {kt k2 : Nat} {vs : List Expr} (hx : locB sc x = true) (hy : locB sc y = true) (hxy : (x == y) = false) (hl : (px.line == py.line) = true) (hn : vs.length = 2)
    (h0 : (vs.any fun | .Starred .. => true | _ => false) = false) (h1 : vs.all (foldedForSure 8) = false) (h2 : vs.all (constantsAlone 8) = false) :
    swappedStores [.Tuple [.Name x px, .Name y py] kt pt] (.Tuple vs k2 pt2) X.env = pure (some [x, y]) := by
  have kx : (X.env.kindOf x == some .local) = true := by unfold Env.kindOf; rw [lookD S hx]; rfl
  have ky : (X.env.kindOf y == some .local) = true := by unfold Env.kindOf; rw [lookD S hy]; rfl
  have hb := S.bk
  have hl' : (py.line == px.line) = true := by rw [beq_iff_eq] at hl ⊢; exact hl.symm
  have hxy' : (y == x) = false := by
    rw [beq_eq_false_iff_ne] at hxy ⊢; exact fun z => hxy z.symm
  unfold swappedStores
  simp only [h0, h1, h2, hb, hn, kx, ky, hl', Expr.pos, List.head?_cons, Option.map_some, Option.getD_some, List.filterMap_cons, List.filterMap_nil, List.length_cons, List.length_nil, beq_self_eq_true, Bool.and_self, if_true, Bool.and_true, List.eraseDups_cons, List.filter_cons, List.filter_nil, List.eraseDups_nil, hxy', Bool.not_false]
  refine (if_neg (by decide)).trans ((if_neg (fun z => Bool.false_ne_true (h0.symm.trans z))).trans rfl)
theorem ss_three (S : SF Φ cf N sc X) {x y z : Str} {px py pz pt pt2 : Pos} {kt k2 : Nat} {vs : List Expr} (hx : locB sc x = true) (hy : locB sc y = true) (hz : locB sc z = true) (hxy : (x == y) = false) (hxz : (x == z) = false) (hyz : (y == z) = false) (hl : (px.line == py.line) = true) (hlz : (px.line == pz.line) = true) (hn : vs.length = 3)
    (h0 : (vs.any fun | .Starred .. => true | _ => false) = false) (h1 : vs.all (foldedForSure 8) = false) (h2 : vs.all (constantsAlone 8) = false) :
    swappedStores [.Tuple [.Name x px, .Name y py, .Name z pz] kt pt] (.Tuple vs k2 pt2) X.env = pure (some [x, y, z]) := by
  have kx : (X.env.kindOf x == some .local) = true := by unfold Env.kindOf; rw [lookD S hx]; rfl
  have ky : (X.env.kindOf y == some .local) = true := by unfold Env.kindOf; rw [lookD S hy]; rfl
  have kz : (X.env.kindOf z == some .local) = true := by unfold Env.kindOf; rw [lookD S hz]; rfl
  have hb := S.bk
  have sy : ∀ {a b : Str}, (a == b) = false → (b == a) = false := fun h => by
    rw [beq_eq_false_iff_ne] at h ⊢; exact fun z => h z.symm
  have sl : ∀ {a b : Nat}, (a == b) = true → (b == a) = true := fun h => by rw [beq_iff_eq] at h ⊢; exact h.symm
  unfold swappedStores
  simp only [h0, h1, h2, hb, hn, kx, ky, kz, sl hl, sl hlz, Expr.pos, List.head?_cons, Option.map_some, Option.getD_some, List.filterMap_cons, List.filterMap_nil, List.length_cons, List.length_nil, beq_self_eq_true, Bool.and_self, if_true, Bool.and_true, List.eraseDups_cons, List.filter_cons, List.filter_nil, List.eraseDups_nil, sy hxy, sy hxz, sy hyz, Bool.not_false]
  refine (if_neg (by decide)).trans ((if_neg (fun z => Bool.false_ne_true (h0.symm.trans z))).trans rfl)
variable (hΦ : Φ.Mono)
include hΦ
theorem asg_any (S : SF Φ cf N sc X) {i : Nat} {e : C} {st : Stmt} (h : asgB N cf sc i e st = true) : ∃ n p x pos t, st = .Assign [.Name n p] x pos ∧ N[i]? = some n ∧ PS X st (tAsg t (gName i)) ∧ ∀ σ H Q, tCe Φ e σ H Q → t σ H Q := by
  unfold asgB at h
  split at h
  · rename_i n p v pos
    obtain ⟨h1, h3⟩ := and_t h
    obtain ⟨h1, h2⟩ := and_t h1
    obtain ⟨h1, h0⟩ := and_t h1
    have hN := of_decide_eq_true h1
    have nd : X.N.Nodup := by rw [S.x.eN]; exact S.x.nd
    have hi : X.N[i]? = some n := by rw [S.x.eN]; exact hN
    have L := tgl S n h0
    refine ⟨n, p, v, pos, ?_⟩
    cases hv : isLc v with
    | false => exact ⟨_, rfl, hN, ps_set nd hi L.1 (pe_of hΦ e S.x h2) (sw_no hv) L.2, fun _ _ _ q => q⟩
    | true =>
      rw [hv] at h3
      cases e <;> try exact (Bool.false_ne_true h3).elim
      rename_i vs t k its cond elt
      obtain ⟨e1, tg, iter, ifs, scope, pos', rfl, hi', ok, hv', hg, ht, he, hf, hs, hse⟩ := comp_parts hΦ S.x h2 (fun S h => pes_of hΦ its S h) (fun S h => pt_of hΦ cond S h) (fun S h => pe_of hΦ elt S h)
      cases hw : swB sc scope n p pos' with
      | false => exact ⟨_, rfl, hN, ps_set nd hi L.1 (pe_of hΦ (.comp vs t k its cond elt) S.x h2) (by rw [sw_eq S, hw]) L.2, fun _ _ _ q => q⟩
      | true =>
        have hl : locB sc n = true := by
          unfold swB at hw
          exact (and_t (and_t hw).1).1
        have := ps_setLc S.x.calm nd hi (lookD S hl) (by rw [sw_eq S, hw]) hi' ok hg ht he hf (py := p) (spos := pos) (pos := pos')
        rw [hv'] at this
        exact ⟨_, rfl, hN, this, fun σ H Q q => comp_core hΦ hs hse q⟩
  · cases h
theorem both_of (s : S) : (∀ {X : Cx} {st : Stmt}, SF Φ cf N sc X → chk1 N cf sc s st = true → PS X st (tSe Φ s)) ∧ (∀ {X : Cx} {sts : List Stmt}, SF Φ cf N sc X → chkB N cf sc s sts = true → PSs X sts (tSe Φ s)) := by
  induction s with
  | asg i e =>
    refine ⟨?_, ?_⟩
    · intro X st S h
      simp only [chk1] at h
      obtain ⟨h1, h2⟩ := and_t h
      obtain ⟨n, p, x, pos, t, rfl, hN, hp, ht⟩ := asg_any hΦ S h2
      exact se_asg hΦ h1 hp ht
    · intro X sts S h
      simp only [chkB] at h
      cases h
  | asgO i e =>
    refine ⟨?_, ?_⟩
    · intro X st S h
      simp only [chk1] at h
      obtain ⟨h1, h2⟩ := and_t h
      obtain ⟨n, p, x, pos, t, rfl, hN, hp, ht⟩ := asg_any hΦ S h2
      exact se_asgO hΦ h1 (by rw [S.x.eN]; exact hN) hp ht
    · intro X sts S h
      simp only [chkB] at h
      cases h
  | asgT t e =>
    refine ⟨?_, ?_⟩
    · intro X st S h
      simp only [chk1] at h
      split at h
      · rename_i tg v pos
        obtain ⟨h1, h3⟩ := and_t h
        obtain ⟨h1, h2⟩ := and_t h1
        obtain ⟨h1, h0⟩ := and_t h1
        obtain ⟨h1, hv⟩ := and_t h1
        obtain ⟨h1, ht⟩ := and_t h1
        refine se_asgT hΦ h1 (pe_of hΦ e S.x h3) (tg_of (tgl S) S.x.calm S.x.eN S.x.nd t h2) (sw_no (notFr h0)) ?_ ?_
        · cases hq : isSeqE v with
          | false => exact ss_none hq
          | true =>
            rw [hq] at hv
            cases v <;> try exact (Bool.false_ne_true hv).elim
            cases tg <;> try exact (Bool.false_ne_true ht).elim
            rw [Bool.or_eq_true] at hv
            rcases hv with hv | hv
            · exact (Bool.false_ne_true hv).elim
            have hv := (show (_ || _) = true from hv)
            rw [Bool.or_eq_true] at hv
            rcases hv with hv | hv
            · obtain ⟨q1, q2⟩ := and_t (show (_ && _) = true from hv)
              exact ss_fold S q1 (notFr q2)
            · exact ss_cell S hv
        · cases tg <;> first | rfl | exact (Bool.false_ne_true ht).elim
      · cases h
    · intro X sts S h
      simp only [chkB] at h
      cases h
  | par is es =>
    refine ⟨?_, ?_⟩
    · intro X st S h
      simp only [chk1] at h
      split at h
      · rename_i i j x px y py k p vs k2 p2 pos
        obtain ⟨h, hcs⟩ := and_t h
        obtain ⟨h, hc⟩ := and_t h
        obtain ⟨h, hf⟩ := and_t h
        obtain ⟨h, hlen⟩ := and_t h
        obtain ⟨h, hline⟩ := and_t h
        obtain ⟨h, hy⟩ := and_t h
        obtain ⟨h, hx⟩ := and_t h
        obtain ⟨h, hne⟩ := and_t h
        obtain ⟨h, hj⟩ := and_t h
        obtain ⟨hsh, hi⟩ := and_t h
        have hw := ss_two S (px := px) (py := py) (pt := p) (pt2 := p2) (kt := k) (k2 := k2) hx hy (notFr hne) hline (of_decide_eq_true hlen) (star_any hcs) (notFr hf) (notFr hc)
        have nd : X.N.Nodup := by rw [S.x.eN]; exact S.x.nd
        have hi' : X.N[i]? = some x := by rw [S.x.eN]; exact of_decide_eq_true hi
        have hj' : X.N[j]? = some y := by rw [S.x.eN]; exact of_decide_eq_true hj
        have hij : i ≠ j := fun z => by
          rw [z, hj'] at hi'; cases hi'
          simp at hne
        match vs, of_decide_eq_true hlen, hcs, hw with
        | [a, b], _, hcs, hw => exact se_par2 hΦ hsh (ps_par S.x.calm nd hi' hj' hij (lookD S hx) (lookD S hy) (pa_of hΦ es S.x hcs) hw)
      · rename_i i j l x px y py z pz k p vs k2 p2 pos
        obtain ⟨h, hcs⟩ := and_t h
        obtain ⟨h, hc⟩ := and_t h
        obtain ⟨h, hf⟩ := and_t h
        obtain ⟨h, hlen⟩ := and_t h
        obtain ⟨h, hline2⟩ := and_t h
        obtain ⟨h, hline⟩ := and_t h
        obtain ⟨h, hz⟩ := and_t h
        obtain ⟨h, hy⟩ := and_t h
        obtain ⟨h, hx⟩ := and_t h
        obtain ⟨h, hne3⟩ := and_t h
        obtain ⟨h, hne2⟩ := and_t h
        obtain ⟨h, hne⟩ := and_t h
        obtain ⟨h, hl⟩ := and_t h
        obtain ⟨h, hj⟩ := and_t h
        obtain ⟨hsh, hi⟩ := and_t h
        have hw := ss_three S (px := px) (py := py) (pz := pz) (pt := p) (pt2 := p2) (kt := k) (k2 := k2) hx hy hz (notFr hne) (notFr hne2) (notFr hne3) hline hline2 (of_decide_eq_true hlen) (star_any hcs) (notFr hf) (notFr hc)
        have nd : X.N.Nodup := by rw [S.x.eN]; exact S.x.nd
        have hi' : X.N[i]? = some x := by rw [S.x.eN]; exact of_decide_eq_true hi
        have hj' : X.N[j]? = some y := by rw [S.x.eN]; exact of_decide_eq_true hj
        have hl' : X.N[l]? = some z := by rw [S.x.eN]; exact of_decide_eq_true hl
        have df : ∀ {i j : Nat} {x y : Str}, X.N[i]? = some x → X.N[j]? = some y → (!(x == y)) = true → i ≠ j := fun a b c z => by
          rw [z, b] at a; cases a
          simp at c
        match vs, of_decide_eq_true hlen, hcs, hw with
        | [a, b, c], _, hcs, hw => exact se_par3 hΦ hsh (ps_par3 S.x.calm nd hi' hj' hl' (df hi' hj' hne) (df hi' hl' hne2) (df hj' hl' hne3) (lookD S hx) (lookD S hy) (lookD S hz) (pa_of hΦ es S.x hcs) hw)
      · cases h
    · intro X sts S h
      simp only [chkB] at h
      cases h
  | seti p ix e =>
    refine ⟨?_, ?_⟩
    · intro X st S h
      simp only [chk1] at h
      split at h
      · rename_i i n p1 y p2 v pos
        obtain ⟨h, hix⟩ := and_t h
        obtain ⟨h, he⟩ := and_t h
        obtain ⟨h, hn⟩ := and_t h
        obtain ⟨h, hv⟩ := and_t h
        obtain ⟨h, hi⟩ := and_t h
        obtain ⟨hs, hy⟩ := and_t h
        exact se_seti hΦ (by have := S.x.un; omega) hs (by rw [S.x.eN]; exact of_decide_eq_true hi) (by rw [S.x.sc]; exact vis_of hv) (nB_of hn).1 (nB_of hn).2 (pe_of hΦ e S.x he) (pe_of hΦ ix S.x hix)
          (by intro v; cases y <;> first | rfl | exact (Bool.false_ne_true hy).elim) (sw_sub (o := .Name n p1) (i := y) (p := p2) (l := pos.line) (env := X.env))
      · cases h
    · intro X sts S h
      simp only [chkB] at h
      cases h
  | «mut» p m e =>
    refine ⟨?_, ?_⟩
    · intro X st S h
      simp only [chk1] at h
      split at h
      · rename_i i n p1 nm apos x cpos pos
        obtain ⟨h, he⟩ := and_t h
        obtain ⟨h, hl⟩ := and_t h
        obtain ⟨h, hn⟩ := and_t h
        obtain ⟨h, hv⟩ := and_t h
        obtain ⟨h, hi⟩ := and_t h
        obtain ⟨h, hx⟩ := and_t h
        obtain ⟨hs, hnm⟩ := and_t h
        obtain rfl := of_decide_eq_true hnm
        exact se_app hΦ hs (by rw [S.x.eN]; exact of_decide_eq_true hi) (by rw [S.x.sc]; exact vis_of hv) (nB_of hn).1 (nB_of hn).2 (pe_of hΦ e S.x he) (star_cons hx) hl
      · rename_i i n p1 nm apos x cpos pos
        obtain ⟨h, he⟩ := and_t h
        obtain ⟨h, hl⟩ := and_t h
        obtain ⟨h, hn⟩ := and_t h
        obtain ⟨h, hv⟩ := and_t h
        obtain ⟨h, hi⟩ := and_t h
        obtain ⟨hnm, hx⟩ := and_t h
        obtain rfl := of_decide_eq_true hnm
        exact se_ext hΦ (by rw [S.x.eN]; exact of_decide_eq_true hi) (by rw [S.x.sc]; exact vis_of hv) (nB_of hn).1 (nB_of hn).2 (pe_of hΦ e S.x he) (star_cons hx) hl
      · cases h
    · intro X sts S h
      simp only [chkB] at h
      cases h
  | ifs t a b iha ihb =>
    refine ⟨?_, ?_⟩
    · intro X st S h
      simp only [chk1] at h
      split at h
      · obtain ⟨h1, h3⟩ := and_t h
        obtain ⟨h1, h2⟩ := and_t h1
        exact se_ifs hΦ (pt_of hΦ t S.x h1) (iha.2 S h2) (ihb.2 S h3)
      · cases h
    · intro X sts S h
      simp only [chkB] at h
      cases h
  | fr t k its b ihb =>
    refine ⟨?_, ?_⟩
    · intro X st S h
      simp only [chk1] at h
      split at h
      · obtain ⟨h1, h3⟩ := and_t h
        obtain ⟨h1, h2⟩ := and_t h1
        obtain ⟨h1, h0⟩ := and_t h1
        exact se_fr hΦ S.x.calm S.xe (it_of hΦ S.x h2 h1 fun es hq => pes_of hΦ its S.x hq) (tg_of (tgl S) S.x.calm S.x.eN S.x.nd t h0) (ihb.2 S h3) (fold_it h2)
      · cases h
    · intro X sts S h
      simp only [chkB] at h
      cases h
  | whl t b ihb =>
    refine ⟨?_, ?_⟩
    · intro X st S h
      simp only [chk1] at h
      split at h
      · obtain ⟨h1, h3⟩ := and_t h
        exact se_whl hΦ S.xe (pt_of hΦ t S.x h1) (ihb.2 S h3)
      · cases h
    · intro X sts S h
      simp only [chkB] at h
      cases h
  | ret e =>
    refine ⟨?_, ?_⟩
    · intro X st S h
      simp only [chk1] at h
      split at h
      · obtain ⟨h1, h3⟩ := and_t h
        exact se_ret hΦ h1 (pe_of hΦ e S.x h3)
      · cases h
    · intro X sts S h
      simp only [chkB] at h
      cases h
  | retN  =>
    refine ⟨?_, ?_⟩
    · intro X st S h
      simp only [chk1] at h
      split at h
      · exact se_retN
      · cases h
    · intro X sts S h
      simp only [chkB] at h
      cases h
  | brk  =>
    refine ⟨?_, ?_⟩
    · intro X st S h
      simp only [chk1] at h
      split at h
      · exact se_brk
      · cases h
    · intro X sts S h
      simp only [chkB] at h
      cases h
  | cnt  =>
    refine ⟨?_, ?_⟩
    · intro X st S h
      simp only [chk1] at h
      split at h
      · exact se_cnt
      · cases h
    · intro X sts S h
      simp only [chkB] at h
      cases h
  | pas  =>
    refine ⟨?_, ?_⟩
    · intro X st S h
      simp only [chk1] at h
      split at h
      · exact se_pas
      · cases h
    · intro X sts S h
      simp only [chkB] at h
      cases h
  | nev  =>
    refine ⟨?_, ?_⟩
    · intro X st S h
      exact se_nev
    · intro X sts S h
      simp only [chkB] at h
      cases h
  | exp e =>
    refine ⟨?_, ?_⟩
    · intro X st S h
      simp only [chk1] at h
      split at h
      · obtain ⟨h1, h3⟩ := and_t h
        exact se_exp hΦ (pe_of hΦ e S.x h3) (sw_no (notFr h1))
      · cases h
    · intro X sts S h
      simp only [chkB] at h
      cases h
  | skip =>
    refine ⟨?_, ?_⟩
    · intro X st S h
      simp only [chk1] at h; cases h
    · intro X sts S h
      simp only [chkB] at h
      split at h
      · exact se_skip
      · cases h
  | frz p =>
    refine ⟨?_, ?_⟩
    · intro X st S h
      simp only [chk1] at h; cases h
    · intro X sts S h
      simp only [chkB] at h
      cases h
  | seq a b iha ihb =>
    refine ⟨?_, ?_⟩
    · intro X st S h
      simp only [chk1] at h; cases h
    · intro X sts S h
      unfold chkB at h
      split at h
      · split at h
        · exact se_frz hΦ (ihb.2 S h)
        · cases h
      · cases h
      · cases h
      · split at h
        · obtain ⟨h1, h3⟩ := and_t h
          exact se_seq hΦ (iha.1 S h1) (ihb.2 S h3)
        · cases h
theorem pss_of (s : S) {X : Cx} {sts : List Stmt} (S : SF Φ cf N sc X) (h : chkB N cf sc s sts = true) : PSs X sts (tSe Φ s) := (both_of hΦ s).2 S h
end
end Ev
/-! Ev13: the state's helpers by hand; all defs at all levels -/
namespace Ev
open PySem PySem.Spec PyProof.Rows L2
def F0 : Hp := fun _ => none
def z0 : Zs := ⟨none, none, [], fun _ => True, fun _ _ _ _ => trivial, fun _ h => by cases h⟩
theorem hi0 (H : Hp) : HI z0 F0 H := ⟨fun a o h => (nomatch (show (none : Option HO) = some o from h)), fun b hb => (nomatch hb), fun b hb => (nomatch hb), trivial⟩
theorem StA.loc {a c : Addr} {H H' : Hp} (h : ∀ b, b ∈ [a, c] → H b = H' b) (s : StA a c H) : StA a c H' := by
  obtain ⟨n, cells, h1, h2, h3⟩ := s
  exact ⟨n, cells, by rw [← h a (by simp)]; exact h1, by rw [← h c (by simp)]; exact h2, h3⟩
def zA (a c : Addr) (h : a ≠ c) : Zs := ⟨some a, none, [a, c], StA a c, fun _ _ k s => s.loc k, fun b e => by cases e; exact ⟨c, h, rfl, fun _ => Iff.rfl⟩⟩
theorem hiA {a c : Addr} {H : Hp} (h : a ≠ c) (s : StA a c H) : HI (zA a c h) F0 H := by
  refine ⟨fun a o h => (nomatch (show (none : Option HO) = some o from h)), fun b hb => rfl, fun b hb => ?_, s⟩
  obtain ⟨n, cells, h1, h2, _⟩ := s
  have hb' : b = a ∨ b = c := by simpa [zA] using hb
  rcases hb' with rfl | rfl
  · exact ⟨_, h1⟩
  · exact ⟨_, h2⟩
/-! ### state, take -/
theorem ixN_at {n j : Nat} (hj : j < n) : ixN n (j : Int) = some j := by
  unfold ixN
  rw [if_pos (by omega), if_pos (by omega)]
  simp
def takeG : List PyData → (PyData → Prop) → Prop := fun ds Q => ∃ m : Int, ds = [stD, .int m] ∧ 0 < m ∧ m < 1073741824 ∧ ∀ r : Int, 0 ≤ r → r < m → Q (.int r)
def tLenP (K : PySem.W.Frag) : List V → Hp → VK → Prop := fun xs H Q => ∃ p ys, xs = [.ref p] ∧ (SqL K H p ys ∨ SqT K H p ys) ∧ Q (.int ys.length) H
def rInt1 : List V → Hp → VK → Prop := fun xs H Q => (∃ i, xs = [.int i] ∧ Q (.int i) H) ∨ ∃ k, xs = [.bl k] ∧ Q (.int (if k then 1 else 0)) H
def rGeI : R2 := rI0 fun i j => .bl (decide (j ≤ i))
def rAddI : R2 := rI0 fun i j => .int (i + j)
def rMulI : R2 := rI CMul fun i j => .int (i * j)
def rModI : R2 := rI (fun _ j => 0 < j) fun i j => .int (i % j)
def rDivI : R2 := rI CDiv fun i j => .int (i / j)
def rAbsI : List V → Hp → VK → Prop := fun xs H Q => ∃ i, xs = [.int i] ∧ Q (.int (if i < 0 then -i else i)) H
def tTake (K : PySem.W.Frag) : TS :=
  tSeq (tAsg (tOp (rIxL K) (tVar 0) (tC (.int 1))) (gName 2))
  (tSeq (tAsg (tOp rModI (tOp (rIxL K) (tVar 0) (tC (.int 0))) (tCB (tLenP K) (tCons (tVar 2) tNil))) (gName 3))
  (tSeq (tAsg (tOp (rIxL K) (tVar 2) (tVar 3)) (gName 4))
  (tSeq (tIfS (tTest (tOp rGeI (tVar 4) (tC (.int 1000000000000000000)))) (tSeq (tAsg (tOp rDivI (tVar 4) (tVar 1)) (gSub (tVar 2) (tVar 3) L2.rSetL)) (tRet (tOp rModI (tVar 4) (tVar 1)))) tNext)
  (tSeq (tAsg (tOp rAddI (tOp (rIxL K) (tVar 0) (tC (.int 0))) (tC (.int 1))) (gSub (tVar 0) (tC (.int 0)) L2.rSetL))
  (tSeq (tAsg (tOp rModI (tCB rInt1 (tCons (tOp rAddI (tOp rMulI (tVar 4) (tC (.int 48271))) (tOp rMulI (tOp (rIxL K) (tVar 0) (tC (.int 0))) (tC (.int 69621)))) tNil)) (tC (.int 2147483647))) (gName 5))
  (tSeq (tAsg (tOp rModI (tCB rInt1 (tCons (tOp rAddI (tOp rMulI (tVar 5) (tC (.int 16807))) (tOp rMulI (tOp (rIxL K) (tVar 0) (tC (.int 0))) (tC (.int 7919)))) tNil)) (tC (.int 1000000007))) (gName 5))
  (tRet (tOp rModI (tOp rDivI (tVar 5) (tC (.int 7))) (tVar 1)))))))))
theorem sm (x : Int) (n : Int) (h1 : -(2 ^ 64) < n) (h2 : n < 2 ^ 64) : CMul x n := .inr ⟨h1, h2⟩
theorem take_core {K : PySem.W.Frag} {a c : Addr} {H : Hp} {m : Int} {Q : VK} (hac : a ≠ c) (s : StA a c H) (h0 : 0 < m) (hm : m < 1073741824)
    (q : ∀ (r : Int) (H' : Hp), 0 ≤ r → r < m → StA a c H' → (∀ b, b ≠ a → b ≠ c → H' b = H b) → Q (.int r) H') :
    tTake K { nx := fun _ H' => Q .non H', rt := Q } [some (.ref a), some (.int m), none, none, none, none] H := by
  obtain ⟨n, cells, ha, hc, hl, hl2, hn⟩ := s
  have SA : SqL K H a [.int n, .ref c] := .of ha
  have SC : SqL K H c (cells.map V.int) := .of hc
  have hlen : (cells.map V.int).length = cells.length := List.length_map _
  have hj0 : 0 ≤ n % (cells.length : Int) := Int.emod_nonneg _ (by omega)
  have hj1 : n % (cells.length : Int) < cells.length := Int.emod_lt_of_pos _ (by omega)
  obtain ⟨j, hj⟩ : ∃ j : Nat, n % (cells.length : Int) = j := ⟨_, (Int.toNat_of_nonneg hj0).symm⟩
  have hjl : j < cells.length := by omega
  have hat : (cells.map V.int)[j]? = some (.int cells[j]) := by rw [List.getElem?_map, List.getElem?_eq_getElem hjl]; rfl
  have hcell : 0 ≤ cells[j] := hn _ (List.getElem_mem hjl)
  refine ⟨.ref a, rfl, a, _, 1, .ref c, rfl, rfl, SA, atI_nat (j := 1) rfl, ?_⟩
  refine ⟨.ref a, rfl, a, _, 0, .int n, rfl, rfl, SA, atI_nat (j := 0) rfl, ?_⟩
  refine ⟨.ref c, rfl, c, _, rfl, .inl SC, n, _, rfl, rfl, by rw [hlen]; omega, ?_⟩
  have hk : n % ((cells.map V.int).length : Int) = j := by rw [hlen]; exact hj
  refine ⟨.ref c, rfl, .int _, rfl, c, _, _, _, rfl, rfl, SC, (by rw [hk]; exact atI_nat hat), ?_⟩
  refine ⟨.int cells[j], rfl, cells[j], 1000000000000000000, rfl, rfl, _, rfl, ite2 (fun _ => ?_) (fun _ => ?_)⟩
  · refine ⟨.int cells[j], rfl, .int m, rfl, _, _, rfl, rfl, ⟨h0, hm⟩, ?_⟩
    refine ⟨.ref c, rfl, .int _, rfl, c, _, _, j, rfl, rfl, hc, (by rw [hk, hlen]; exact ixN_at hjl), ?_⟩
    refine ⟨.int cells[j], rfl, .int m, rfl, _, _, rfl, rfl, h0, ?_⟩
    refine q _ _ (Int.emod_nonneg _ (by omega)) (Int.emod_lt_of_pos _ h0) ⟨n, cells.set j (cells[j] / m), ?_, ?_, by rw [List.length_set]; exact hl, by rw [List.length_set]; exact hl2, fun x hx => ?_⟩ fun b _ hb => upd_ne hb
    · rw [upd_ne hac]; exact ha
    · rw [upd_same, List.map_set]
    · rcases List.mem_or_eq_of_mem_set hx with h | h
      · exact hn x h
      · rw [h]; exact Int.ediv_nonneg hcell (by omega)
  · refine ⟨.ref a, rfl, a, _, 0, .int n, rfl, rfl, SA, atI_nat (j := 0) rfl, n, 1, rfl, rfl, ?_⟩
    refine ⟨.ref a, rfl, a, _, 0, 0, rfl, rfl, ha, rfl, ?_⟩
    have SA' : SqL K (upd H a (.lst [.int (n + 1), .ref c])) a [.int (n + 1), .ref c] := .of upd_same
    refine ⟨.int cells[j], rfl, _, _, rfl, rfl, sm _ _ (by decide) (by decide), ?_⟩
    refine ⟨.ref a, rfl, a, _, 0, .int (n + 1), rfl, rfl, SA', atI_nat (j := 0) rfl, _, _, rfl, rfl, sm _ _ (by decide) (by decide), _, _, rfl, rfl, ?_⟩
    refine .inl ⟨_, rfl, _, _, rfl, rfl, (by show (0 : Int) < _; decide), ?_⟩
    refine ⟨_, rfl, _, _, rfl, rfl, sm _ _ (by decide) (by decide), ?_⟩
    refine ⟨.ref a, rfl, a, _, 0, .int (n + 1), rfl, rfl, SA', atI_nat (j := 0) rfl, _, _, rfl, rfl, sm _ _ (by decide) (by decide), _, _, rfl, rfl, ?_⟩
    refine .inl ⟨_, rfl, _, _, rfl, rfl, (by show (0 : Int) < _; decide), ?_⟩
    refine ⟨_, rfl, _, _, rfl, rfl, (show CDiv _ 7 from ⟨by decide, by decide⟩), .int m, rfl, _, _, rfl, rfl, h0, ?_⟩
    refine q _ _ (Int.emod_nonneg _ (by omega)) (Int.emod_lt_of_pos _ h0) ⟨n + 1, cells, upd_same, ?_, hl, hl2, hn⟩ fun b hb _ => upd_ne hb
    rw [upd_ne hac.symm]; exact hc
section
variable {P : Program} {w : World} {K : PySem.W.Frag} {mg : Str → Option Value} {base : Heap}
theorem Rp.stv {Z : Zs} {F : Hp} {v : V} (h : Rp Z F v stD) : ∃ a, v = .ref a ∧ Z.root = some a := by
  cases h with
  | dK _ r => cases r with | cons e _ _ => cases e
  | st h => exact ⟨_, rfl, h⟩
theorem ok_take {st : Stmt} {f : Addr} {fd : FuncData} {N : List Str} {k : Nat} (F : Fun K "_law_take" "_law_take" st f fd) (S : FnScope N ["state", "most"] (defScope st)) (hN : N.length = 6)
    (hb : ∀ cdv A outer s H E, PSs (cxOf CX0 P w K mg base N "_law_take" (defScope st) f cdv A outer s H E).nox (defBody st) (tTake K)) : FnOk P w K mg base CX0 (k + 1) f fd ["state", "most"] (spF 2 takeG) := by
  refine F.ok S (fun vs H Q E h => h.1) (fun cdv A outer s H vs Q E hr h => ⟨tTake K, hb cdv A outer s H E, ?_⟩)
  obtain ⟨hl, Z, F, ds, hi, r, m, rfl, h0, hm, q⟩ := h
  cases r with
  | cons r1 r2 =>
    cases r2 with
    | cons r2 r3 =>
      cases r3
      obtain rfl := r2.intv
      obtain ⟨a, rfl, hr⟩ := r1.stv
      obtain ⟨c, hac, hd, hk⟩ := Z.gA a hr
      have e : L2.start N [V.ref a, V.int m] = [some (.ref a), some (.int m), none, none, none, none] := by unfold L2.start; rw [hN]; rfl
      rw [e]
      refine take_core hac ((hk H).mp hi.zok) h0 hm fun r H' hr0 hr1 s' hs => ?_
      have hin : ∀ b, b ∉ Z.dom → b ≠ a ∧ b ≠ c := fun b hb => by rw [hd] at hb; simpa using hb
      have hout : ∀ b, b ∉ Z.dom → H' b = H b := fun b hb => hs b (hin b hb).1 (hin b hb).2
      refine q r hr0 hr1 _ F H' ⟨fun b o n _ e => by rw [hout b n]; exact e, fun b e => ?_, fun _ _ e => e, fun _ _ e => .inl e, fun _ z => z.elim, ⟨fun b o e => ?_, hi.zf, fun b hb => ?_, (hk H').mpr s'⟩⟩ (.int r)
      · by_cases hb : b ∈ Z.dom
        · rw [hd] at hb
          obtain ⟨n, cells, h1, h2, _⟩ := s'
          rcases (show b = a ∨ b = c by simpa using hb) with z | z
          · rw [z, h1] at e; cases e
          · rw [z, h2] at e; cases e
        · rw [← hout b hb]; exact e
      · have hb : b ∉ Z.dom := fun z => by rw [hi.zf b z] at e; cases e
        rw [hout b hb]; exact hi.sub b o e
      · rw [hd] at hb
        obtain ⟨n, cells, h1, h2, _⟩ := s'
        rcases (show b = a ∨ b = c by simpa using hb) with rfl | rfl
        · exact ⟨_, h1⟩
        · exact ⟨_, h2⟩
/-! ### the program -/
/-- a def's place in the program -/
def Lnk (P : Program) (w : World) (K : PySem.W.Frag) (mg : Str → Option Value) (base : Heap) (G : Prg) (cf : Cfg) (i : Nat) (x : Str) (n : Nat) (a : Addr) (fd : FuncData) (ps : List Str) : Prop :=
  mg x = some (.ref a) ∧ PySem.W.keepIn K (.ref a) = true ∧ Binds K fd ps [] ∧ ps.length = n ∧
    match G.own i with
    | some g => ∀ k, FnOk P w K mg base CX0 (k + 1) a fd ps (spF n g)
    | none => ∃ D st N, G.fns[i]? = some D ∧ Fun K x x st a fd ∧ FnScope N ps (defScope st) ∧ chkB N cf (defScope st) D.body (defBody st) = true ∧ D.np = n ∧ D.ns = N.length
theorem sf_of {Φ : Tab} {cf : Cfg} {N ps : List Str} {sc : Scope} {qual : Str} {f : Addr} {cdv : Value} {A : Around} {outer : List PySem.Env} {s : Shared} {H : Hp} {E : XK} {k : Nat} (hr : Room k (A.deeper (envOfC qual sc s.heap.objs.size f cdv))) (S : FnScope N ps sc) (hbl : ∀ x, x ∈ cf.bls → mg x = none)
    (hf : ∀ i x n, cf.fns[i]? = some (some (x, n)) → ∃ a fd ps, mg x = some (.ref a) ∧ PySem.W.keepIn K (.ref a) = true ∧ Binds K fd ps [] ∧ FnOk P w K mg base CX0 k a fd ps (spF n (Φ i))) :
    SF Φ cf N sc (cxOf CX0 P w K mg base N qual sc f cdv A outer s H E).nox :=
  ⟨⟨rfl, S.nd, rfl, rfl, by have := hr.un; show (A.deeper (envOfC qual sc s.heap.objs.size f cdv)).units + 65 < cLine; omega, hbl, fun i x n h => let ⟨a, fd, ps, h1, h2, h3, h4⟩ := hf i x n h; ⟨k, a, fd, ps, h1, h2, h3, hr, h4⟩⟩, fun _ => rfl, rfl, S.kind⟩
/-- the entry's slots -/
theorem st_start {Z : Zs} {F H : Hp} {N : List Str} {vs : List V} {ds : List PyData} {n m : Nat} (r : RpA Z F vs ds) (hn : ds.length = n) (hm : m = N.length) : StR Z F H (L2.start N vs) (ds.map .sh ++ List.replicate (m - n) .un) (fun _ => []) := by
  subst hm
  have hl := r.length
  refine ⟨by unfold L2.start; simp [hl, hn], fun i s e => ?_, fun i j a h => (nomatch h), fun _ _ => rfl⟩
  by_cases hi : i < ds.length
  · rw [List.getElem?_append_left (by simpa using hi), List.getElem?_map, List.getElem?_eq_getElem hi] at e
    cases e
    obtain ⟨v, e1, rv⟩ := r.get (List.getElem?_eq_getElem hi)
    refine ⟨rfl, v, ?_, rv⟩
    unfold L2.start
    rw [List.getElem?_append_left (by simpa [hl] using hi), List.getElem?_map, e1]
    rfl
  · rw [List.getElem?_append_right (by simpa using hi), List.getElem?_replicate] at e
    split at e
    · cases e; rfl
    · cases e
theorem all_ok {G : Prg} {cf : Cfg} (hG : ∀ f g, G.own f = some g → ∀ ds Q Q', (∀ d, Q d → Q' d) → g ds Q → g ds Q') (hbl : ∀ x, x ∈ cf.bls → mg x = none) (hf : ∀ i x n, cf.fns[i]? = some (some (x, n)) → ∃ a fd ps, Lnk P w K mg base G cf i x n a fd ps) :
    ∀ k i x n a fd ps, cf.fns[i]? = some (some (x, n)) → Lnk P w K mg base G cf i x n a fd ps → FnOk P w K mg base CX0 k a fd ps (spF n (Phi G k i))
  | 0, i, x, n, a, fd, ps, hi, L => by
    have no : ∀ vs H Q E, spF n (Phi G 0 i) vs H Q E → False := fun vs H Q E ⟨_, Z, F, ds, _, _, h⟩ => by
      simp only [Phi] at h
    exact ⟨fun vs H Q E h => (no _ _ _ _ h).elim, fun A outer s H args us vs Q E _ _ _ _ h => (no _ _ _ _ h).elim⟩
  | k + 1, i, x, n, a, fd, ps, hi, L => by
    obtain ⟨h1, h2, h3, h4, h5⟩ := L
    cases ho : G.own i with
    | some g =>
      rw [ho] at h5
      have e : Phi G (k + 1) i = g := by funext ds Q; simp only [Phi, ho]
      rw [e]
      exact h5 k
    | none =>
      rw [ho] at h5
      obtain ⟨D, st, N, hD, F, S, hc, hp, hs⟩ := h5
      have e : Phi G (k + 1) i = runD (Phi G k) D := by funext ds Q; simp only [Phi, ho, hD]
      rw [e]
      refine F.ok S (fun vs H Q E h => h.1.trans h4.symm) (fun cdv A outer s H vs Q E hr h => ⟨tSe (Phi G k) D.body, ?_, ?_⟩)
      · refine pss_of (Phi_mono hG k) D.body (sf_of hr S hbl fun i x n hi => ?_) hc
        obtain ⟨a, fd, ps, L⟩ := hf i x n hi
        exact ⟨a, fd, ps, L.1, L.2.1, L.2.2.1, all_ok hG hbl hf k i x n a fd ps hi L⟩
      · obtain ⟨hl, Z, F, ds, hi, r, hd, h⟩ := h
        refine ⟨Z, F, _, _, hi, st_start r hd hs, exS_mono (Phi_mono hG k) D.body _ ?_ h⟩
        exact ⟨fun _ q σ' F' H' fp' g _ => q .non F' H' ⟨fun b o n m e => g.keep b o n (fun z => by obtain ⟨j, hj⟩ := z; cases hj) e, g.there, g.fro, fun b o e => (g.new b o e).elim .inl fun z => .inr (z.elim .inl fun ⟨_, hj⟩ => (nomatch hj)), fun _ z => z.elim, g.hi⟩ .non,
          fun d _ q v F' H' g r => q v F' H' ⟨fun b o n m e => g.keep b o n (fun z => by obtain ⟨j, hj⟩ := z; cases hj) e, g.there, g.fro, fun b o e => (g.new b o e).elim .inl fun z => .inr (z.elim .inl fun ⟨_, hj⟩ => (nomatch hj)), fun _ z => z.elim, g.hi⟩ r, fun _ q => q.elim, fun _ q => q.elim⟩
end
end Ev
/-! Ev14: the state's first making; the law's def; the end -/
namespace Ev
open PySem PySem.Spec PyProof.Rows L2
def spS (K : PySem.W.Frag) : Sp := fun vs H Q _ => ∃ (a : Addr) (ns : List Int), vs = [.ref a] ∧ SqL K H a (ns.map V.int) ∧ ns.length ≤ 63 ∧ ∀ v H', (∃ p c, v = .ref p ∧ p ≠ c ∧ StA p c H') → Q v H'
def tCells (K : PySem.W.Frag) : TS := tAsg (tLc (iList K (tSl (rSlL K) (tVar 0) tNoPart (tPart (tC (V.int 63))))) (gName 2) tYes (tCB rAbsI (tCons (tVar 2) tNil)) [2]) (gName 1)
theorem cells_core {K : PySem.W.Frag} {a : Addr} {ns : List Int} {H : Hp} {D : Ends} (hs : SqL K H a (ns.map V.int)) (hl : ns.length ≤ 63)
    (q : ∀ (p : Addr) (ms : List Int) (H' : Hp), H' p = some (.lst (ms.map V.int)) → ms.length < 64 → (∀ x ∈ ms, 0 ≤ x) → D.nx [some (.ref a), some (.ref p), none] H') : tCells K D [some (.ref a), none, none] H := by
  refine ⟨.ref a, rfl, 63, rfl, a, _, rfl, hs, fun c hc => ?_⟩
  have e : cutV (ns.map V.int) none (some 63) = (ns.take 63).map V.int := by
    unfold cutV
    rw [show HT.sIx (ns.map V.int).length (ns.map V.int).length (some 63) = min 63 (ns.map V.int).length from HT.sIx_nat _ _ 63, HT.sIx_none, List.drop_zero, List.length_map, Nat.sub_zero, List.map_take, Nat.min_eq_right hl, List.take_of_length_le (by rw [List.length_map]; omega), List.take_of_length_le (by rw [List.length_map]; omega)]
  have e' : ns.take 63 = ns := List.take_of_length_le hl
  rw [e, e']
  refine ⟨c, rfl, ⟨_, .of upd_same⟩, fun d hd => ?_⟩
  have hcd : c ≠ d := fun z => by rw [z, upd_same] at hd; cases hd
  refine lc_list (xs := ns.map V.int) (fun i H' => H' c = some (.lst (ns.map V.int)) ∧ H' d = some (.lst ((ns.take i).map fun n => V.int (if n < 0 then -n else n)))) ⟨by rw [upd_ne hcd]; exact upd_same, upd_same⟩ (fun i H' _ h => .of h.1) (fun i x H' hx h => ?_) (fun H' h => ?_)
  · rw [List.getElem?_map] at hx
    cases hn : ns[i]? with
    | none => rw [hn] at hx; cases hx
    | some n =>
      rw [hn] at hx
      cases hx
      refine ⟨rfl, ?_⟩
      simp only [tYes, if_true]
      refine ⟨.int n, rfl, n, rfl, _, h.2, ?_, ?_, ?_⟩
      · rw [List.length_map, List.length_take]
        exact Nat.lt_of_le_of_lt (Nat.min_le_right _ _) (small1000 (by omega))
      · rw [upd_ne hcd]; exact h.1
      · rw [upd_same, List.take_add_one, hn, List.map_append]
        rfl
  · refine q d (ns.map fun n => if n < 0 then -n else n) H' ?_ (by rw [List.length_map]; omega) fun x hx => ?_
    · rw [h.2, List.length_map, List.take_length, List.map_map]; rfl
    · obtain ⟨n, _, rfl⟩ := List.mem_map.mp hx
      split <;> omega
def restS : S := .seq (.ifs (.v (.op .eq (.bi .len (.cons (.own (.sl 1)) .nil)) (.int 0))) (.seq (.asgO 1 (.lst (.cons (.int 0) .nil))) .skip) .skip) (.seq (.frz (.sl 1)) (.seq (.ret (.lst (.cons (.int 0) (.cons (.rd (.sl 1)) .nil)))) .skip))
theorem rest_run {Φ : Tab} {K : PySem.W.Frag} {a p : Addr} {ms : List Int} {H : Hp} {D : Ends} (hp : H p = some (.lst (ms.map V.int))) (hl : ms.length < 64) (hn : ∀ x ∈ ms, 0 ≤ x) (q : ∀ v H', (∃ p c, v = .ref p ∧ p ≠ c ∧ StA p c H') → D.rt v H') :
    tSe Φ restS D [some (.ref a), some (.ref p), none] H := by
  have st : StR z0 F0 H [some (.ref a), some (.ref p), none] [.un, .ow (.list (ms.map .int)), .un] (fun j => if j = 1 then [p] else []) := by
    refine ⟨rfl, fun i s e => ?_, fun i j b h1 h2 => ?_, fun i hi => ?_⟩
    · match i, e with
      | 0, e => cases e; rfl
      | 1, e => cases e; exact ⟨p, _, rfl, rfl, rfl, (nomatch ·), hp, RpA.of_ints _ _ _⟩
      | 2, e => cases e; rfl
      | i + 3, e => cases e
    · by_cases h : i = 1
      · by_cases h' : j = 1
        · rw [h, h']
        · simp only [if_neg h'] at h2; cases h2
      · simp only [if_neg h] at h1; cases h1
    · exact if_neg (by have : 3 ≤ i := hi; omega)
  refine ⟨z0, F0, _, _, hi0 H, st, ?_⟩
  have fin : ∀ cells : List Int, 0 < cells.length → cells.length < 64 → (∀ x ∈ cells, 0 ≤ x) → ∀ v F' H', Gr z0 (Mf fun j => if j = 1 then [p] else []) F0 H M0 F' H' → Rp z0 F' v (.list [.int 0, .list (cells.map .int)]) → D.rt v H' := by
    intro cells h1 h2 h3 v F' H' g r
    cases r with
    | lst hA rA =>
      rename_i x xs
      cases rA with
      | cons r1 r2 =>
        cases r2 with
        | cons r2 r3 =>
          cases r3
          cases r1
          cases r2 with
          | lst hB rB =>
            obtain rfl := rB.ints
            rename_i c
            refine q _ _ ⟨x, c, rfl, fun z => ?_, 0, cells, g.hi.sub _ _ hA, g.hi.sub _ _ hB, h1, h2, h3⟩
            subst z
            rw [hA] at hB
            cases cells with
            | nil => cases h1
            | cons n r =>
              cases r with
              | nil => cases hB
              | cons m r => cases hB
  cases ms with
  | nil =>
    simp [restS, exS, evT, ev, evs, Pl.get, okO, okOs, fnS, op2, shaped2, SeqAt.shaped, truthD, retD, Pl.put, Fl.sl, PyData.eqv]
    exact fin [0] (by decide) (by decide) (by decide)
  | cons n r =>
    simp [restS, exS, evT, ev, evs, Pl.get, okO, okOs, fnS, op2, shaped2, SeqAt.shaped, truthD, retD, Pl.put, Fl.sl, PyData.eqv]
    rw [if_pos ⟨⟨rfl, by simp [PyData.depth]⟩, rfl, by simp [PyData.depth]⟩]
    have e : ((r.length : Int) + 1 == 0) = false := by rw [beq_eq_false_iff_ne]; omega
    simp only [e, Bool.false_eq_true, if_false]
    exact fin (n :: r) (by simp) hl hn
section
variable {P : Program} {w : World} {K : PySem.W.Frag} {mg : Str → Option Value} {base : Heap}
theorem ok_state {st : Stmt} {f : Addr} {fd : FuncData} {N : List Str} {k : Nat} {cf : Cfg} {c1 : Stmt} {cr : List Stmt} (F : Fun K "_law_state" "_law_state" st f fd) (S : FnScope N ["script"] (defScope st)) (hN : N.length = 3) (hbl : ∀ x, x ∈ cf.bls → mg x = none) (hf : cf.fns = [])
    (hd : defBody st = c1 :: cr) (hb : ∀ cdv A outer s H E, PS (cxOf CX0 P w K mg base N "_law_state" (defScope st) f cdv A outer s H E).nox c1 (tCells K)) (hc : chkB N cf (defScope st) restS cr = true) : FnOk P w K mg base CX0 (k + 1) f fd ["script"] (spS K) := by
  refine F.ok S (fun vs H Q E h => ?_) (fun cdv A outer s H vs Q E hr h => ⟨tSeq (tCells K) (tSe (Phi ⟨[], fun _ => none⟩ 0) restS), ?_, ?_⟩)
  · obtain ⟨a, ns, rfl, _⟩ := h
    rfl
  · rw [hd]
    exact pss_cons (hb cdv A outer s H E) (pss_of (Phi_mono (fun _ _ h => by cases h) 0) restS (sf_of hr S hbl fun i x n hi => by rw [hf] at hi; cases hi) hc)
  · obtain ⟨a, ns, rfl, hs, hl, q⟩ := h
    have e : L2.start N [V.ref a] = [some (.ref a), none, none] := by unfold L2.start; rw [hN]; rfl
    rw [e]
    exact cells_core hs hl fun p ms H' hp hl hn => rest_run (K := K) hp hl hn q
/-- the law: state = _law_state(script), then its code -/
def lawG (G : Prg) (k : Nat) (ns : Nat) (body : S) : Prop := exS (Phi G k) body (.un :: .sh stD :: List.replicate (ns - 2) .un) { nx := fun _ => False, rt := fun d _ => d = .bool true, bk := fun _ => False, ct := fun _ => False }
def spLaw (K : PySem.W.Frag) : Sp := fun vs H Q _ => ∃ (a : Addr) (ns : List Int), vs = [.ref a] ∧ SqL K H a (ns.map V.int) ∧ ns.length ≤ 63 ∧ ∀ H', Q (.bl true) H'
theorem ok_law {G : Prg} {cf : Cfg} {st : Stmt} {f fS : Addr} {fd fdS : FuncData} {N : List Str} {k : Nat} {body : S} {cr : List Stmt} {p1 p2 p3 p4 p5 : Pos} (hG : ∀ f g, G.own f = some g → ∀ ds Q Q', (∀ d, Q d → Q' d) → g ds Q → g ds Q') (hbl : ∀ x, x ∈ cf.bls → mg x = none)
    (hf : ∀ i x n, cf.fns[i]? = some (some (x, n)) → ∃ a fd ps, Lnk P w K mg base G cf i x n a fd ps) (FS : FnOk P w K mg base CX0 k fS fdS ["script"] (spS K)) (bS : Binds K fdS ["script"] []) (gS : mg "_law_state" = some (.ref fS)) (kS : PySem.W.keepIn K (.ref fS) = true)
    (F : Fun K "law" "law" st f fd) (S : FnScope N ["script"] (defScope st)) (hN1 : N[1]? = some ("state" : Str)) (hN0 : N[0]? = some ("script" : Str)) (hv : Loc (defScope st) ("state" : Str)) (hg : (defScope st).names.lookup ("_law_state" : Str) = some .globalImplicit) (hv0 : vB (defScope st) "script" = true)
    (hd : defBody st = .Assign [.Name "state" p1] (.Call (.Name "_law_state" p2) [.Name "script" p3] [] p4) p5 :: cr) (hc : chkB N cf (defScope st) body cr = true) (law : lawG G k N.length body) : FnOk P w K mg base CX0 (k + 1) f fd ["script"] (spLaw K) := by
  refine F.ok S (fun vs H Q E h => ?_) (fun cdv A outer s H vs Q E hr h => ⟨tSeq (tAsg (tCall (spS K) [] E0 (tCons (tVar 0) tNil)) (gName 1)) (tSe (Phi G k) body), ?_, ?_⟩)
  · obtain ⟨a, ns, rfl, _⟩ := h
    rfl
  · rw [hd]
    have SS := sf_of (cf := cf) (Φ := Phi G k) (P := P) (w := w) (K := K) (mg := mg) (base := base) (H := H) (E := E) (outer := outer) hr S hbl fun i x n hi => by
      obtain ⟨a, fd, ps, L⟩ := hf i x n hi
      exact ⟨a, fd, ps, L.1, L.2.1, L.2.2.1, all_ok hG hbl hf k i x n a fd ps hi L⟩
    refine pss_cons (ps_set S.nd hN1 hv (pe_call FS hr hg gS kS bS .nil pass0 (pa_cons (pe_var hN0 (vis_of hv0)) pa_nil))) (pss_of (Phi_mono hG k) body SS hc)
  · obtain ⟨a, ns, rfl, hs, hl, q⟩ := h
    have hlen : 2 ≤ N.length := (List.getElem?_eq_some_iff.mp hN1).1
    obtain ⟨m, hm⟩ : ∃ m, N.length = m + 2 := ⟨N.length - 2, by omega⟩
    have e : L2.start N [V.ref a] = some (.ref a) :: none :: List.replicate m none := by
      unfold L2.start
      rw [hm, show m + 2 - [V.ref a].length = m + 1 from rfl, List.replicate_succ]
      rfl
    rw [e]
    refine ⟨.ref a, rfl, a, ns, rfl, hs, hl, fun v H' ⟨p, c, ev, hpc, sA⟩ => ?_⟩
    subst ev
    have stL : StR (zA p c hpc) F0 H' ((some (.ref a) :: none :: List.replicate m none).set 1 (some (.ref p))) (.un :: .sh stD :: List.replicate (N.length - 2) .un) (fun _ => []) := by
      refine ⟨by simp [hm], fun i s e => ?_, fun i j b h => (nomatch h), fun _ _ => rfl⟩
      match i, e with
      | 0, e => cases e; rfl
      | 1, e => cases e; exact ⟨rfl, _, rfl, .st rfl⟩
      | i + 2, e =>
        rw [show (Sl.un :: Sl.sh stD :: List.replicate (N.length - 2) Sl.un)[i + 2]? = (List.replicate (N.length - 2) Sl.un)[i]? from rfl, List.getElem?_replicate] at e
        split at e
        · cases e; rfl
        · cases e
    refine ⟨zA p c hpc, F0, _, _, hiA hpc sA, stL, exS_mono (Phi_mono hG k) body _ ?_ law⟩
    exact ⟨fun _ z => z.elim, fun d _ e v F' H' g r => by subst e; cases r; exact q H', fun _ z => z.elim, fun _ z => z.elim⟩
end
end Ev
/-! Com: rules over the codes' meaning -/
namespace Ev
open PySem PySem.Spec PyProof.Rows L2
def gSh : Option Sl → (PyData → Prop) → Prop
  | some (.sh d), q => q d
  | _, _ => False
def gOw : Option Sl → (PyData → Prop) → Prop
  | some (.ow d), q => q d
  | _, _ => False
@[simp] theorem gSh_sh {d : PyData} {q : PyData → Prop} : gSh (some (.sh d)) q = q d := rfl
@[simp] theorem gOw_ow {d : PyData} {q : PyData → Prop} : gOw (some (.ow d)) q = q d := rfl
section
variable {Φ : Tab} {ε : Env} {Q : PyData → Env → Prop}
@[simp] theorem x_rd {i : Nat} : ev Φ (.rd (.sl i)) ε Q = gSh ε[i]? (fun d => Q d ε) := by
  simp only [ev, Pl.get]
  cases ε[i]? with
  | none => rfl
  | some s => cases s <;> rfl
@[simp] theorem x_own {i : Nat} : ev Φ (.own (.sl i)) ε Q = gOw ε[i]? (fun d => Q d ε) := by
  simp only [ev, Pl.get]
  cases ε[i]? with
  | none => rfl
  | some s => cases s <;> rfl
@[simp] theorem x_int {n : Int} : ev Φ (.int n) ε Q = Q (.int n) ε := by simp only [ev]
@[simp] theorem x_bl {n : Bool} : ev Φ (.bl n) ε Q = Q (.bool n) ε := by simp only [ev]
@[simp] theorem x_non : ev Φ .non ε Q = Q .none ε := by simp only [ev]
@[simp] theorem x_str {n : Str} : ev Φ (.str n) ε Q = Q (.str n) ε := by simp only [ev]
@[simp] theorem x_dnew {t : Bool} : ev Φ (.dnew t) ε Q = Q (.dict (if t = true then [(.none, .bool false)] else [])) ε := by simp only [ev]
@[simp] theorem x_tup {es : Cs} : ev Φ (.tup es) ε Q = evs Φ es ε fun ds ε' => Q (.tuple ds) ε' := by simp only [ev]
@[simp] theorem x_lst {es : Cs} : ev Φ (.lst es) ε Q = evs Φ es ε fun ds ε' => Q (.list ds) ε' := by simp only [ev]
@[simp] theorem x_op {o : Op2} {a b : C} : ev Φ (.op o a b) ε Q = ev Φ a ε fun x ε1 => ev Φ b ε1 fun y ε2 => okO a x ε2 ∧ retD (op2 o x y) fun r => Q r ε2 := by simp only [ev]
@[simp] theorem x_un {o : Op1} {a : C} : ev Φ (.un o a) ε Q = ev Φ a ε fun x ε1 => retD (op1 o x) fun r => Q r ε1 := by simp only [ev]
def caseB (x : Option PyData) (a b : Prop) : Prop := match x with
  | some (.bool true) => a
  | some (.bool false) => b
  | _ => False
@[simp] theorem caseB_b {c : Bool} {a b : Prop} : caseB (some (.bool c)) a b = if c = true then a else b := by cases c <;> rfl
@[simp] theorem x_chain {o p : Op2} {a b c : C} : ev Φ (.chain o p a b c) ε Q = ev Φ a ε fun x ε1 => ev Φ b ε1 fun y ε2 => okO a x ε2 ∧ caseB (op2 o x y) (ev Φ c ε2 fun z ε3 => okO b y ε3 ∧ retD (op2 p y z) fun r => Q r ε3) (Q (.bool false) ε2) := by
  simp only [ev, caseB]
  all_goals rfl
@[simp] theorem x_nd {a b : C} : ev Φ (.nd a b) ε Q = ev Φ a ε fun x ε1 => caseB (some x) (ev Φ b ε1 Q) (Q (.bool false) ε1) := by
  simp only [ev]
  congr 1
  funext x ε1
  cases x <;> try rfl
  rename_i k
  cases k <;> rfl
@[simp] theorem x_or {a b : C} : ev Φ (.or a b) ε Q = ev Φ a ε fun x ε1 => caseB (some x) (Q (.bool true) ε1) (ev Φ b ε1 Q) := by
  simp only [ev]
  congr 1
  funext x ε1
  cases x <;> try rfl
  rename_i k
  cases k <;> rfl
@[simp] theorem x_ite {t : T} {a b : C} : ev Φ (.ite t a b) ε Q = evT Φ t ε fun c ε1 => if c = true then ev Φ a ε1 Q else ev Φ b ε1 Q := by simp only [ev]
@[simp] theorem x_idx {a i : C} : ev Φ (.idx a i) ε Q = ev Φ a ε fun x ε1 => ev Φ i ε1 fun y ε2 => okO a x ε2 ∧ retD (ixS x y) fun r => Q r ε2 := by simp only [ev]
@[simp] theorem x_slc {a : C} {lo hi : O} : ev Φ (.slc a lo hi) ε Q = ev Φ a ε fun x ε1 => evO Φ lo ε1 fun l ε2 => evO Φ hi ε2 fun h ε3 => okO a x ε3 ∧ retD (slS x l h) fun r => Q r ε3 := by simp only [ev]
def revD : PyData → Option PyData
  | .list ds => some (.list ds.reverse)
  | _ => none
@[simp] theorem revD_l {ds : List PyData} : revD (.list ds) = some (.list ds.reverse) := rfl
@[simp] theorem x_rev {a : C} : ev Φ (.rev a) ε Q = ev Φ a ε fun x ε1 => retD (revD x) fun r => Q r ε1 := by
  simp only [ev]
  congr 1
  all_goals (funext x ε1; cases x <;> rfl)
@[simp] theorem x_cl {f : Nat} {es : Cs} : ev Φ (.cl f es) ε Q = evs Φ es ε fun ds ε' => Φ f ds fun d => Q d ε' := by simp only [ev]
@[simp] theorem x_bi {f : Fn} {es : Cs} : ev Φ (.bi f es) ε Q = evs Φ es ε fun ds ε' => okOs es ds ε' ∧ retD (fnS f ds) fun r => Q r ε' := by simp only [ev]
@[simp] theorem x_mt {m : Mt} {a : C} {es : Cs} : ev Φ (.mt m a es) ε Q = ev Φ a ε fun x ε1 => mtK m x = true ∧ evs Φ es ε1 fun ds ε2 => okO a x ε2 ∧ okOs es ds ε2 ∧ retD (mtS m x ds) fun r => Q r ε2 := by simp only [ev]
@[simp] theorem x_nil {Q : List PyData → Env → Prop} : evs Φ .nil ε Q = Q [] ε := by simp only [evs]
@[simp] theorem x_cons {c : C} {r : Cs} {Q : List PyData → Env → Prop} : evs Φ (.cons c r) ε Q = ev Φ c ε fun d ε1 => evs Φ r ε1 fun ds ε2 => Q (d :: ds) ε2 := by simp only [evs]
def retB (x : Option Bool) (q : Bool → Prop) : Prop := match x with
  | some b => q b
  | none => False
@[simp] theorem retB_s {b : Bool} {q : Bool → Prop} : retB (some b) q = q b := rfl
@[simp] theorem x_v {c : C} {Q : Bool → Env → Prop} : evT Φ (.v c) ε Q = ev Φ c ε fun d ε1 => retB (truthD d) fun b => Q b ε1 := by
  simp only [evT]
  congr 1
  all_goals (funext x ε1; cases truthD x <;> rfl)
@[simp] theorem x_tnd {a b : T} {Q : Bool → Env → Prop} : evT Φ (.nd a b) ε Q = evT Φ a ε fun c ε1 => if c = true then evT Φ b ε1 Q else Q false ε1 := by simp only [evT]
@[simp] theorem x_tor {a b : T} {Q : Bool → Env → Prop} : evT Φ (.or a b) ε Q = evT Φ a ε fun c ε1 => if c = true then Q true ε1 else evT Φ b ε1 Q := by simp only [evT]
@[simp] theorem x_tnt {a : T} {Q : Bool → Env → Prop} : evT Φ (.nt a) ε Q = evT Φ a ε fun c ε1 => Q (!c) ε1 := by simp only [evT]
@[simp] theorem x_yes {Q : Bool → Env → Prop} : evT Φ .yes ε Q = Q true ε := by simp only [evT]
@[simp] theorem x_no {Q : Option Int → Env → Prop} : evO Φ .no ε Q = Q none ε := by simp only [evO]
def retI (x : PyData) (q : Int → Prop) : Prop := match x with
  | .int b => q b
  | _ => False
@[simp] theorem retI_s {b : Int} {q : Int → Prop} : retI (.int b) q = q b := rfl
@[simp] theorem x_so {c : C} {Q : Option Int → Env → Prop} : evO Φ (.so c) ε Q = ev Φ c ε fun d ε1 => retI d fun i => Q (some i) ε1 := by
  simp only [evO]
  congr 1
  all_goals (funext x ε1; cases x <;> rfl)
@[simp] theorem retD_s {d : PyData} {q : PyData → Prop} : retD (some d) q = q d := rfl
@[simp] theorem okO_own {i : Nat} {d : PyData} : okO (.own (.sl i)) d ε = (ε[i]? = some (.ow d)) := by
  unfold okO
  simp only [Pl.get]
  cases h : ε[i]? with
  | none => simp
  | some s => cases s <;> simp
@[simp] theorem okO_rd {p : Pl} {d : PyData} : okO (.rd p) d ε = True := rfl
@[simp] theorem okO_op {o : Op2} {a b : C} {d : PyData} : okO (.op o a b) d ε = True := rfl
@[simp] theorem okO_un {o : Op1} {a : C} {d : PyData} : okO (.un o a) d ε = True := rfl
@[simp] theorem okO_int {n : Int} {d : PyData} : okO (.int n) d ε = True := rfl
@[simp] theorem okO_bl {n : Bool} {d : PyData} : okO (.bl n) d ε = True := rfl
@[simp] theorem okO_non {d : PyData} : okO .non d ε = True := rfl
@[simp] theorem okO_str {n : Str} {d : PyData} : okO (.str n) d ε = True := rfl
@[simp] theorem okO_dnew {t : Bool} {d : PyData} : okO (.dnew t) d ε = True := rfl
@[simp] theorem okO_tup {es : Cs} {d : PyData} : okO (.tup es) d ε = True := rfl
@[simp] theorem okO_lst {es : Cs} {d : PyData} : okO (.lst es) d ε = True := rfl
@[simp] theorem okO_chain {o p : Op2} {a b c : C} {d : PyData} : okO (.chain o p a b c) d ε = True := rfl
@[simp] theorem okO_nd {a b : C} {d : PyData} : okO (.nd a b) d ε = True := rfl
@[simp] theorem okO_or {a b : C} {d : PyData} : okO (.or a b) d ε = True := rfl
@[simp] theorem okO_ite {t : T} {a b : C} {d : PyData} : okO (.ite t a b) d ε = True := rfl
@[simp] theorem okO_idx {a b : C} {d : PyData} : okO (.idx a b) d ε = True := rfl
@[simp] theorem okO_slc {a : C} {l h : O} {d : PyData} : okO (.slc a l h) d ε = True := rfl
@[simp] theorem okO_rev {a : C} {d : PyData} : okO (.rev a) d ε = True := rfl
@[simp] theorem okO_cl {f : Nat} {es : Cs} {d : PyData} : okO (.cl f es) d ε = True := rfl
@[simp] theorem okO_bi {f : Fn} {es : Cs} {d : PyData} : okO (.bi f es) d ε = True := rfl
@[simp] theorem okO_mt {m : Mt} {a : C} {es : Cs} {d : PyData} : okO (.mt m a es) d ε = True := rfl
@[simp] theorem okO_comp {vs : List Nat} {t : Tg} {k : Ik} {its : Cs} {c : T} {e : C} {d : PyData} : okO (.comp vs t k its c e) d ε = True := rfl
@[simp] theorem okOs_nil {ds : List PyData} : okOs .nil ds ε = True := by unfold okOs; rfl
@[simp] theorem okOs_cons {c : C} {r : Cs} {d : PyData} {ds : List PyData} : okOs (.cons c r) (d :: ds) ε = (okO c d ε ∧ okOs r ds ε) := by rw [okOs]
end
/-! ### operations -/
section
@[simp] theorem o_add {a b : Int} : op2 .add (.int a) (.int b) = some (.int (a + b)) := rfl
@[simp] theorem o_sub {a b : Int} : op2 .sub (.int a) (.int b) = some (.int (a - b)) := rfl
theorem o_mul {a b : Int} (h : mulOk a b) : op2 .mul (.int a) (.int b) = some (.int (a * b)) := if_pos h
theorem o_fdiv {a b : Int} (h : divOk b) : op2 .fdiv (.int a) (.int b) = some (.int (a / b)) := if_pos h
theorem o_mod {a b : Int} (h : 0 < b) : op2 .mod (.int a) (.int b) = some (.int (a % b)) := if_pos h
@[simp] theorem o_lt {a b : Int} : op2 .lt (.int a) (.int b) = some (.bool (decide (a < b))) := rfl
@[simp] theorem o_le {a b : Int} : op2 .le (.int a) (.int b) = some (.bool (decide (a ≤ b))) := rfl
@[simp] theorem o_gt {a b : Int} : op2 .gt (.int a) (.int b) = some (.bool (decide (b < a))) := rfl
@[simp] theorem o_ge {a b : Int} : op2 .ge (.int a) (.int b) = some (.bool (decide (b ≤ a))) := rfl
theorem sh_int (a : Int) : SeqAt.shaped (.int a) = true := by simp [SeqAt.shaped, PyData.canLay0, PyData.depth]
theorem sh_bool (a : Bool) : SeqAt.shaped (.bool a) = true := by simp [SeqAt.shaped, PyData.canLay0, PyData.depth]
theorem sh_non : SeqAt.shaped .none = true := by simp [SeqAt.shaped, PyData.canLay0, PyData.depth]
theorem o_eq {a b : PyData} (ha : SeqAt.shaped a = true) (hb : SeqAt.shaped b = true) : op2 .eq a b = some (.bool (PyData.eqv a b)) := by
  show (if shaped2 a b = true then some (PyData.bool (PyData.eqv a b)) else none) = _
  rw [if_pos (by unfold shaped2; rw [ha, hb]; rfl)]
theorem o_ne {a b : PyData} (ha : SeqAt.shaped a = true) (hb : SeqAt.shaped b = true) : op2 .ne a b = some (.bool (!PyData.eqv a b)) := by
  show (if shaped2 a b = true then some (PyData.bool (!PyData.eqv a b)) else none) = _
  rw [if_pos (by unfold shaped2; rw [ha, hb]; rfl)]
@[simp] theorem eqv_int {a b : Int} : PyData.eqv (.int a) (.int b) = decide (a = b) := by rw [PyData.eqv]; exact Bool.eq_iff_iff.mpr (by simp)
@[simp] theorem eqv_str {a b : Str} : PyData.eqv (.str a) (.str b) = decide (a = b) := by rw [PyData.eqv]; exact Bool.eq_iff_iff.mpr (by simp)
@[simp] theorem o_eqi {a b : Int} : op2 .eq (.int a) (.int b) = some (.bool (decide (a = b))) := by rw [o_eq (sh_int a) (sh_int b), eqv_int]
@[simp] theorem o_nei {a b : Int} : op2 .ne (.int a) (.int b) = some (.bool (!decide (a = b))) := by rw [o_ne (sh_int a) (sh_int b), eqv_int]
@[simp] theorem u_neg {a : Int} : op1 .neg (.int a) = some (.int (-a)) := rfl
@[simp] theorem u_nt {a : Bool} : op1 .nt (.bool a) = some (.bool (!a)) := rfl
@[simp] theorem u_isN {d : PyData} : op1 .isN d = some (.bool (isNoneD d)) := by cases d <;> rfl
@[simp] theorem u_notN {d : PyData} : op1 .notN d = some (.bool (!isNoneD d)) := by cases d <;> rfl
@[simp] theorem t_b {b : Bool} : truthD (.bool b) = some b := rfl
@[simp] theorem t_l {ds : List PyData} : truthD (.list ds) = some (!ds.isEmpty) := rfl
@[simp] theorem f_len {ds : List PyData} : fnS .len [.list ds] = some (.int ds.length) := rfl
@[simp] theorem f_lenT {ds : List PyData} : fnS .len [.tuple ds] = some (.int ds.length) := rfl
@[simp] theorem f_tup {ds : List PyData} : fnS .tuple [.list ds] = some (.tuple ds) := rfl
@[simp] theorem f_lst {ds : List PyData} : fnS .list [.list ds] = some (.list ds) := rfl
@[simp] theorem f_lstT {ds : List PyData} : fnS .list [.tuple ds] = some (.list ds) := rfl
@[simp] theorem i_l {ds : List PyData} {i : Int} : ixS (.list ds) (.int i) = atI ds i := rfl
@[simp] theorem i_t {ds : List PyData} {i : Int} : ixS (.tuple ds) (.int i) = atI ds i := rfl
theorem atN {α : Type} {ds : List α} {j : Nat} {d : α} (h : ds[j]? = some d) : atI ds (j : Int) = some d := L2.atI_nat h
@[simp] theorem at0 {α : Type} {d : α} {ds : List α} : atI (d :: ds) 0 = some d := L2.atI_nat (j := 0) rfl
@[simp] theorem at1 {α : Type} {c d : α} {ds : List α} : atI (c :: d :: ds) 1 = some d := L2.atI_nat (j := 1) rfl
@[simp] theorem at2 {α : Type} {b c d : α} {ds : List α} : atI (b :: c :: d :: ds) 2 = some d := L2.atI_nat (j := 2) rfl
end
/-! ### statements -/
section
variable {Φ : Tab} {ε : Env} {P : Po}
@[simp] theorem s_skip : exS Φ .skip ε P = P.nx ε := by simp only [exS]
@[simp] theorem s_seq {a b : S} : exS Φ (.seq a b) ε P = exS Φ a ε { nx := fun ε' => exS Φ b ε' P, rt := P.rt, bk := P.bk, ct := P.ct } := by simp only [exS]
@[simp] theorem s_asg {i : Nat} {e : C} : exS Φ (.asg i e) ε P = ev Φ e ε fun d ε' => P.nx (ε'.set i (.sh d)) := by simp only [exS]
@[simp] theorem s_asgO {i : Nat} {e : C} : exS Φ (.asgO i e) ε P = ev Φ e ε fun d ε' => P.nx (ε'.set i (.ow d)) := by simp only [exS]
def retE (x : Option Env) (q : Env → Prop) : Prop := match x with
  | some b => q b
  | none => False
@[simp] theorem retE_s {b : Env} {q : Env → Prop} : retE (some b) q = q b := rfl
@[simp] theorem s_asgT {t : Tg} {e : C} : exS Φ (.asgT t e) ε P = ev Φ e ε fun d ε' => retE (tgS t d ε') P.nx := by
  simp only [exS]
  congr 1
  all_goals (funext d ε'; cases tgS t d ε' <;> rfl)
@[simp] theorem s_par {is : List Nat} {es : Cs} : exS Φ (.par is es) ε P = evs Φ es ε fun ds ε' => retE (setAll is ds ε') P.nx := by
  simp only [exS]
  congr 1
  all_goals (funext d ε'; cases setAll is d ε' <;> rfl)
@[simp] theorem s_seti {i : Nat} {ix e : C} : exS Φ (.seti (.sl i) ix e) ε P = ev Φ e ε fun d ε1 => owB ((Pl.sl i).get ε1) = true ∧ ev Φ ix ε1 fun k ε2 => gOw ε2[i]? fun c => retD (setS c k d) fun c' => P.nx (ε2.set i (.ow c')) := by
  simp only [exS, Pl.get]
  congr 1
  funext d ε1
  congr 1
  congr 1
  funext k ε2
  cases h : ε2[i]? with
  | none => rfl
  | some s => cases s <;> rfl
@[simp] theorem s_mut {i : Nat} {m : Mu} {e : C} : exS Φ (.mut (.sl i) m e) ε P = (muK m ((Pl.sl i).get ε) = true ∧ ev Φ e ε fun d ε1 => okO e d ε1 ∧ gOw ε1[i]? fun c => retD (muS m c d) fun c' => P.nx (ε1.set i (.ow c'))) := by
  simp only [exS, Pl.get]
  congr 1
  congr 1
  funext d ε1
  congr 1
  cases h : ε1[i]? with
  | none => rfl
  | some s => cases s <;> rfl
@[simp] theorem s_ifs {t : T} {a b : S} : exS Φ (.ifs t a b) ε P = evT Φ t ε fun c ε' => if c = true then exS Φ a ε' P else exS Φ b ε' P := by simp only [exS]
@[simp] theorem s_ret {e : C} : exS Φ (.ret e) ε P = ev Φ e ε fun d ε' => P.rt d ε' := by simp only [exS]
@[simp] theorem s_retN : exS Φ .retN ε P = P.rt .none ε := by simp only [exS]
@[simp] theorem s_brk : exS Φ .brk ε P = P.bk ε := by simp only [exS]
@[simp] theorem s_cnt : exS Φ .cnt ε P = P.ct ε := by simp only [exS]
@[simp] theorem s_pas : exS Φ .pas ε P = P.nx ε := by simp only [exS]
@[simp] theorem s_exp {e : C} : exS Φ (.exp e) ε P = ev Φ e ε fun _ ε' => P.nx ε' := by simp only [exS]
def frzE (i : Nat) (ε : Env) : Option Env := match ε[i]? with
  | some (.ow d) => some (ε.set i (.sh d))
  | some (.sh _) => some ε
  | _ => none
@[simp] theorem s_frz {i : Nat} : exS Φ (.frz (.sl i)) ε P = retE (frzE i ε) P.nx := by
  simp only [exS, Pl.get, frzE]
  cases h : ε[i]? with
  | none => rfl
  | some s => cases s <;> rfl
end
end Ev
/-! Com2: loops, comprehensions; the program's common defs -/
namespace Ev
open PySem PySem.Spec PyProof.Rows L2
section
variable {Φ : Tab} (hΦ : Φ.Mono)
include hΦ
theorem fr_rule {t : Tg} {k : Ik} {its : Cs} {b : S} {ε : Env} {P : Po} (xs : List PyData) (I : Nat → Env → Prop) (h0 : evs Φ its ε fun ds ε' => itS k ds = some xs ∧ I 0 ε')
    (hs : ∀ i x ε', xs[i]? = some x → I i ε' → retE (tgS t x ε') fun ε1 => exS Φ b ε1 { nx := I (i + 1), rt := P.rt, bk := P.nx, ct := I (i + 1) }) (he : ∀ ε', I xs.length ε' → P.nx ε') : exS Φ (.fr t k its b) ε P := by
  simp only [exS]
  refine evs_mono hΦ its ε (fun ds ε' ⟨e, i0⟩ => ?_) h0
  rw [e]
  have key : ∀ (ys : List PyData) (i : Nat) (ε' : Env), xs.drop i = ys → i ≤ xs.length → I i ε' → forL (fun d ε0 P' => match tgS t d ε0 with
        | some ε1 => exS Φ b ε1 P'
        | none => False) ys ε' P := by
    intro ys
    induction ys with
    | nil =>
      intro i ε' hd hi hI
      have : i = xs.length := by
        have := congrArg List.length hd
        rw [List.length_drop, List.length_nil] at this
        omega
      subst this
      exact he ε' hI
    | cons y ys ih =>
      intro i ε' hd hi hI
      have hlt : i < xs.length := by
        have := congrArg List.length hd
        rw [List.length_drop, List.length_cons] at this
        omega
      have hy : xs[i]? = some y := by
        have := congrArg (fun l => l[0]?) hd
        simpa using this
      have hd' : xs.drop (i + 1) = ys := by
        have := congrArg (List.drop 1) hd
        simpa [List.drop_drop, Nat.add_comm] using this
      have h := hs i y ε' hy hI
      show (match tgS t y ε' with
        | some ε1 => exS Φ b ε1 _
        | none => False)
      cases e : tgS t y ε' with
      | none => rw [e] at h; exact h
      | some ε1 =>
        rw [e] at h
        refine exS_mono hΦ b ε1 ?_ h
        exact ⟨fun ε2 k => ih (i + 1) ε2 hd' hlt k, fun _ _ k => k, fun _ k => k, fun ε2 k => ih (i + 1) ε2 hd' hlt k⟩
  exact key xs 0 ε' rfl (Nat.zero_le _) i0
theorem whl_rule {t : T} {b : S} {ε : Env} {P : Po} (I : Nat → Env → Prop) (n : Nat) (h0 : I n ε)
    (hs : ∀ m ε', I m ε' → evT Φ t ε' fun c ε1 => if c = true then exS Φ b ε1 { nx := fun ε2 => ∃ m', m' < m ∧ I m' ε2, rt := P.rt, bk := P.nx, ct := fun ε2 => ∃ m', m' < m ∧ I m' ε2 } else P.nx ε1) : exS Φ (.whl t b) ε P := by
  simp only [exS]
  have key : ∀ N m ε', m ≤ N → I m ε' → whlN (fun ε0 q => evT Φ t ε0 q) (fun ε0 P' => exS Φ b ε0 P') (N + 1) ε' P := by
    intro N
    induction N with
    | zero =>
      intro m ε' hm hI
      refine evT_mono hΦ t ε' (fun c ε1 h => ?_) (hs m ε' hI)
      cases c with
      | true =>
        rw [if_pos rfl] at h ⊢
        refine exS_mono hΦ b ε1 ?_ h
        exact ⟨fun _ ⟨m', h1, _⟩ => by omega, fun _ _ k => k, fun _ k => k, fun _ ⟨m', h1, _⟩ => by omega⟩
      | false => exact h
    | succ N ih =>
      intro m ε' hm hI
      refine evT_mono hΦ t ε' (fun c ε1 h => ?_) (hs m ε' hI)
      cases c with
      | true =>
        rw [if_pos rfl] at h ⊢
        refine exS_mono hΦ b ε1 ?_ h
        exact ⟨fun ε2 ⟨m', h1, h2⟩ => ih m' ε2 (by omega) h2, fun _ _ k => k, fun _ k => k, fun ε2 ⟨m', h1, h2⟩ => ih m' ε2 (by omega) h2⟩
      | false => exact h
  exact ⟨n + 1, key n n ε (Nat.le_refl _) h0⟩
end
inductive Chn (R : PyData → Option PyData → Prop) : List PyData → List PyData → Prop
  | nil : Chn R [] []
  | yes {d y : PyData} {ds ys : List PyData} : R d (some y) → Chn R ds ys → Chn R (d :: ds) (y :: ys)
  | no {d : PyData} {ds ys : List PyData} : R d none → Chn R ds ys → Chn R (d :: ds) ys
theorem compL_rel {f : PyData → Env → (Option PyData → Env → Prop) → Prop} (hf : ∀ d ε q q', (∀ r ε', q r ε' → q' r ε') → f d ε q → f d ε q') {ε : Env} {R : PyData → Option PyData → Prop} : ∀ {ds acc : List PyData} {Q : List PyData → Env → Prop},
    (∀ d, d ∈ ds → f d ε fun r ε' => ε' = ε ∧ R d r) → acc.length + ds.length ≤ LIM → (∀ ys, Chn R ds ys → Q (acc ++ ys) ε) → compL f ds acc ε Q
  | [], acc, Q, _, _, hQ => by
    have := hQ [] .nil
    rw [List.append_nil] at this
    exact this
  | d :: ds, acc, Q, h, hl, hQ => by
    refine hf d ε _ _ (fun r ε' ⟨e, hr⟩ => ?_) (h d List.mem_cons_self)
    subst e
    rw [List.length_cons] at hl
    cases r with
    | some y =>
      refine ⟨by omega, compL_rel hf (fun d' hd => h d' (List.mem_cons_of_mem _ hd)) (by rw [List.length_append, List.length_singleton]; omega) fun ys c => ?_⟩
      rw [List.append_assoc]
      exact hQ (y :: ys) (.yes hr c)
    | none => exact compL_rel hf (fun d' hd => h d' (List.mem_cons_of_mem _ hd)) (by omega) fun ys c => hQ ys (.no hr c)
section
variable {Φ : Tab} (hΦ : Φ.Mono)
include hΦ
theorem comp_rel {vs : List Nat} {t : Tg} {k : Ik} {its : Cs} {cond : T} {elt : C} {ε : Env} {Q : PyData → Env → Prop} (xs : List PyData) (R : PyData → Option PyData → Prop) (h0 : evs Φ its ε fun ds ε' => ε' = ε ∧ okOs its ds ε ∧ itS k ds = some xs)
    (hb : ∀ d, d ∈ xs → retE (tgS t d (wipeE ε vs)) fun ε1 => evT Φ cond ε1 fun b ε2 => if b = true then ev Φ elt ε2 fun y ε3 => backE ε ε3 vs = ε ∧ R d (some y) else backE ε ε2 vs = ε ∧ R d none) (hl : xs.length ≤ LIM) (hQ : ∀ ys, Chn R xs ys → Q (.list ys) ε) :
    ev Φ (.comp vs t k its cond elt) ε Q := by
  simp only [ev]
  refine evs_mono hΦ its ε (fun ds ε' ⟨e1, e2, e3⟩ => ?_) h0
  subst e1
  refine ⟨e2, ?_⟩
  rw [e3]
  refine compL_rel (R := R) (fun d ε0 q q' hq h => ?_) (fun d hd => ?_) (by simpa using hl) (fun ys c => by simpa using hQ ys c)
  · split at h
    · refine evT_mono hΦ cond _ (fun b ε2 h => ?_) h
      cases b with
      | true =>
        rw [if_pos rfl] at h ⊢
        exact ev_mono hΦ elt _ (fun y ε3 h => hq _ _ h) h
      | false => exact hq _ _ h
    · exact h
  · have h := hb d hd
    cases e : tgS t d (wipeE ε' vs) with
    | none => rw [e] at h; exact h.elim
    | some ε1 =>
      rw [e] at h
      refine evT_mono hΦ cond _ (fun b ε2 h => ?_) h
      cases b with
      | true =>
        rw [if_pos rfl] at h ⊢
        exact ev_mono hΦ elt _ (fun y ε3 h => h) h
      | false => exact h
end
theorem chn_map {g : PyData → PyData} : ∀ {xs ys : List PyData}, Chn (fun d r => r = some (g d)) xs ys → ys = xs.map g
  | _, _, .nil => rfl
  | _, _, .yes e c => by cases e; rw [List.map_cons, ← chn_map c]
theorem chn_filt {p : PyData → Bool} {g : PyData → PyData} : ∀ {xs ys : List PyData}, Chn (fun d r => r = if p d = true then some (g d) else none) xs ys → ys = (xs.filter p).map g
  | _, _, .nil => rfl
  | d :: _, _, .yes e c => by
    cases h : p d with
    | true => rw [h] at e; cases e; rw [List.filter_cons_of_pos h, List.map_cons, ← chn_filt c]
    | false => rw [h] at e; cases e
  | d :: _, _, .no e c => by
    cases h : p d with
    | true => rw [h] at e; cases e
    | false => rw [List.filter_cons_of_neg (by simp [h]), ← chn_filt c]
theorem chn_each {S : PyData → PyData → Prop} : ∀ {xs ys : List PyData}, Chn (fun d r => ∃ y, r = some y ∧ S d y) xs ys → ys.length = xs.length ∧ ∀ (i : Nat) (x y : PyData), xs[i]? = some x → ys[i]? = some y → S x y
  | _, _, .nil => ⟨rfl, fun i x y h => by simp at h⟩
  | _, _, .yes ⟨_, e, s⟩ c => by
    cases e
    obtain ⟨h1, h2⟩ := chn_each c
    refine ⟨by simp [h1], fun i x y hx hy => ?_⟩
    cases i with
    | zero => simp at hx hy; subst hx hy; exact s
    | succ i => simp at hx hy; exact h2 i x y hx hy
  | _, _, .no ⟨_, e, _⟩ _ => by cases e
section
variable {Φ : Tab} (hΦ : Φ.Mono)
include hΦ
/-- [g d for d in xs] -/
theorem comp_map {vs : List Nat} {t : Tg} {k : Ik} {its : Cs} {elt : C} {ε : Env} {Q : PyData → Env → Prop} (xs : List PyData) (g : PyData → PyData) (h0 : evs Φ its ε fun ds ε' => ε' = ε ∧ okOs its ds ε ∧ itS k ds = some xs)
    (hb : ∀ d, d ∈ xs → retE (tgS t d (wipeE ε vs)) fun ε1 => ev Φ elt ε1 fun y ε3 => backE ε ε3 vs = ε ∧ y = g d) (hl : xs.length ≤ LIM) (hQ : Q (.list (xs.map g)) ε) :
    ev Φ (.comp vs t k its .yes elt) ε Q := by
  refine comp_rel hΦ xs (fun d r => r = some (g d)) h0 (fun d hd => ?_) hl fun ys c => by rw [chn_map c]; exact hQ
  have h := hb d hd
  cases e : tgS t d (wipeE ε vs) with
  | none => rw [e] at h; exact h.elim
  | some ε1 =>
    rw [e] at h
    simp only [retE_s, x_yes, if_true] at h ⊢
    exact ev_mono hΦ elt _ (fun y ε3 ⟨h1, h2⟩ => ⟨h1, by rw [h2]⟩) h
/-- .. the values told by a relation -/
theorem comp_each {vs : List Nat} {t : Tg} {k : Ik} {its : Cs} {elt : C} {ε : Env} {Q : PyData → Env → Prop} (xs : List PyData) (R : PyData → PyData → Prop) (h0 : evs Φ its ε fun ds ε' => ε' = ε ∧ okOs its ds ε ∧ itS k ds = some xs)
    (hb : ∀ d, d ∈ xs → retE (tgS t d (wipeE ε vs)) fun ε1 => ev Φ elt ε1 fun y ε3 => backE ε ε3 vs = ε ∧ R d y) (hl : xs.length ≤ LIM) (hQ : ∀ ys : List PyData, ys.length = xs.length → (∀ (i : Nat) (x y : PyData), xs[i]? = some x → ys[i]? = some y → R x y) → Q (.list ys) ε) :
    ev Φ (.comp vs t k its .yes elt) ε Q := by
  refine comp_rel hΦ xs (fun d r => ∃ y, r = some y ∧ R d y) h0 (fun d hd => ?_) hl fun ys c => hQ ys (chn_each c).1 (chn_each c).2
  have h := hb d hd
  cases e : tgS t d (wipeE ε vs) with
  | none => rw [e] at h; exact h.elim
  | some ε1 =>
    rw [e] at h
    simp only [retE_s, x_yes, if_true] at h ⊢
    exact ev_mono hΦ elt _ (fun y ε3 ⟨h1, h2⟩ => ⟨h1, y, rfl, h2⟩) h
/-- [g d for d in xs if p d] -/
theorem comp_filt {vs : List Nat} {t : Tg} {k : Ik} {its : Cs} {cond : T} {elt : C} {ε : Env} {Q : PyData → Env → Prop} (xs : List PyData) (p : PyData → Bool) (g : PyData → PyData) (h0 : evs Φ its ε fun ds ε' => ε' = ε ∧ okOs its ds ε ∧ itS k ds = some xs)
    (hb : ∀ d, d ∈ xs → retE (tgS t d (wipeE ε vs)) fun ε1 => evT Φ cond ε1 fun b ε2 => b = p d ∧ (if b = true then ev Φ elt ε2 fun y ε3 => backE ε ε3 vs = ε ∧ y = g d else backE ε ε2 vs = ε)) (hl : xs.length ≤ LIM) (hQ : Q (.list ((xs.filter p).map g)) ε) :
    ev Φ (.comp vs t k its cond elt) ε Q := by
  refine comp_rel hΦ xs (fun d r => r = if p d = true then some (g d) else none) h0 (fun d hd => ?_) hl fun ys c => by rw [chn_filt c]; exact hQ
  have h := hb d hd
  cases e : tgS t d (wipeE ε vs) with
  | none => rw [e] at h; exact h.elim
  | some ε1 =>
    rw [e] at h
    simp only [retE_s] at h ⊢
    refine evT_mono hΦ cond _ (fun b ε2 ⟨h1, h2⟩ => ?_) h
    subst h1
    cases hp : p d with
    | true =>
      rw [hp, if_pos rfl] at h2
      rw [if_pos rfl]
      exact ev_mono hΦ elt _ (fun y ε3 ⟨h1, h2⟩ => ⟨h1, by rw [h2, if_pos rfl]⟩) h2
    | false =>
      rw [hp] at h2
      exact ⟨h2, rfl⟩
end
section
variable {Φ : Tab} (hΦ : Φ.Mono)
theorem compL_by {α : Type} {f : PyData → Env → (Option PyData → Env → Prop) → Prop} (hf : ∀ d ε q q', (∀ r ε', q r ε' → q' r ε') → f d ε q → f d ε q') {ε : Env} (fd : α → PyData) (fy : α → Option PyData) : ∀ {ps : List α} {acc : List PyData} {Q : List PyData → Env → Prop},
    (∀ a, a ∈ ps → f (fd a) ε fun r ε' => ε' = ε ∧ r = fy a) → acc.length + ps.length ≤ LIM → Q (acc ++ ps.filterMap fy) ε → compL f (ps.map fd) acc ε Q
  | [], acc, Q, _, _, hQ => by
    rw [List.filterMap_nil, List.append_nil] at hQ
    exact hQ
  | a :: ps, acc, Q, h, hl, hQ => by
    refine hf (fd a) ε _ _ (fun r ε' ⟨e, hr⟩ => ?_) (h a List.mem_cons_self)
    subst e
    rw [List.length_cons] at hl
    cases r with
    | some y =>
      rw [List.filterMap_cons_some hr.symm] at hQ
      refine ⟨by omega, compL_by hf fd fy (fun d' hd => h d' (List.mem_cons_of_mem _ hd)) (by rw [List.length_append, List.length_singleton]; omega) ?_⟩
      rw [List.append_assoc]
      exact hQ
    | none =>
      rw [List.filterMap_cons_none hr.symm] at hQ
      exact compL_by hf fd fy (fun d' hd => h d' (List.mem_cons_of_mem _ hd)) (by omega) hQ
include hΦ
/-- a comprehension over the images of ps -/
theorem comp_opt {α : Type} (ps : List α) (fd : α → PyData) (fy : α → Option PyData) {vs : List Nat} {t : Tg} {k : Ik} {its : Cs} {cond : T} {elt : C} {ε : Env} {Q : PyData → Env → Prop} (h0 : evs Φ its ε fun ds ε' => ε' = ε ∧ okOs its ds ε ∧ itS k ds = some (ps.map fd))
    (hb : ∀ a, a ∈ ps → retE (tgS t (fd a) (wipeE ε vs)) fun ε1 => evT Φ cond ε1 fun b ε2 => if b = true then ev Φ elt ε2 fun y ε3 => backE ε ε3 vs = ε ∧ some y = fy a else backE ε ε2 vs = ε ∧ none = fy a) (hl : ps.length ≤ LIM) (hQ : Q (.list (ps.filterMap fy)) ε) :
    ev Φ (.comp vs t k its cond elt) ε Q := by
  simp only [ev]
  refine evs_mono hΦ its ε (fun ds ε' ⟨e1, e2, e3⟩ => ?_) h0
  subst e1
  refine ⟨e2, ?_⟩
  rw [e3]
  refine compL_by (fun d ε0 q q' hq h => ?_) fd fy (fun a ha => ?_) (by simpa using hl) (by simpa using hQ)
  · split at h
    · refine evT_mono hΦ cond _ (fun b ε2 h => ?_) h
      cases b with
      | true =>
        rw [if_pos rfl] at h ⊢
        exact ev_mono hΦ elt _ (fun y ε3 h => hq _ _ h) h
      | false => exact hq _ _ h
    · exact h
  · have h := hb a ha
    cases e : tgS t (fd a) (wipeE ε' vs) with
    | none => rw [e] at h; exact h.elim
    | some ε1 =>
      rw [e] at h
      refine evT_mono hΦ cond _ (fun b ε2 h => ?_) h
      cases b with
      | true =>
        rw [if_pos rfl] at h ⊢
        exact ev_mono hΦ elt _ (fun y ε3 h => h) h
      | false => exact h
theorem comp_by {α : Type} (ps : List α) (fd fy : α → PyData) {vs : List Nat} {t : Tg} {k : Ik} {its : Cs} {elt : C} {ε : Env} {Q : PyData → Env → Prop} (h0 : evs Φ its ε fun ds ε' => ε' = ε ∧ okOs its ds ε ∧ itS k ds = some (ps.map fd))
    (hb : ∀ a, a ∈ ps → retE (tgS t (fd a) (wipeE ε vs)) fun ε1 => ev Φ elt ε1 fun y ε3 => backE ε ε3 vs = ε ∧ y = fy a) (hl : ps.length ≤ LIM) (hQ : Q (.list (ps.map fy)) ε) :
    ev Φ (.comp vs t k its .yes elt) ε Q := by
  refine comp_opt hΦ ps fd (fun a => some (fy a)) h0 (fun a ha => ?_) hl (by rw [List.filterMap_eq_map']; exact hQ)
  have h := hb a ha
  cases e : tgS t (fd a) (wipeE ε vs) with
  | none => rw [e] at h; exact h.elim
  | some ε1 =>
    rw [e] at h
    simp only [retE_s, x_yes, if_true] at h ⊢
    exact ev_mono hΦ elt _ (fun y ε3 ⟨h1, h2⟩ => ⟨h1, by rw [h2]⟩) h
theorem comp_if {α : Type} (ps : List α) (p : α → Bool) (fd fy : α → PyData) {vs : List Nat} {t : Tg} {k : Ik} {its : Cs} {cond : T} {elt : C} {ε : Env} {Q : PyData → Env → Prop} (h0 : evs Φ its ε fun ds ε' => ε' = ε ∧ okOs its ds ε ∧ itS k ds = some (ps.map fd))
    (hb : ∀ a, a ∈ ps → retE (tgS t (fd a) (wipeE ε vs)) fun ε1 => evT Φ cond ε1 fun b ε2 => b = p a ∧ (if b = true then ev Φ elt ε2 fun y ε3 => backE ε ε3 vs = ε ∧ y = fy a else backE ε ε2 vs = ε)) (hl : ps.length ≤ LIM) (hQ : Q (.list ((ps.filter p).map fy)) ε) :
    ev Φ (.comp vs t k its cond elt) ε Q := by
  refine comp_opt hΦ ps fd (fun a => if p a = true then some (fy a) else none) h0 (fun a ha => ?_) hl ?_
  · have h := hb a ha
    cases e : tgS t (fd a) (wipeE ε vs) with
    | none => rw [e] at h; exact h.elim
    | some ε1 =>
      rw [e] at h
      simp only [retE_s] at h ⊢
      refine evT_mono hΦ cond _ (fun b ε2 ⟨h1, h2⟩ => ?_) h
      subst h1
      cases hp : p a with
      | true =>
        rw [hp, if_pos rfl] at h2
        rw [if_pos rfl]
        exact ev_mono hΦ elt _ (fun y ε3 ⟨h1, h2⟩ => ⟨h1, by rw [h2, if_pos rfl]⟩) h2
      | false =>
        rw [hp] at h2
        exact ⟨h2, rfl⟩
  · have : (ps.filterMap fun a => if p a = true then some (fy a) else none) = (ps.filter p).map fy := by
      clear hQ hl hb h0
      induction ps with
      | nil => rfl
      | cons a ps ih =>
        cases hp : p a with
        | true => rw [List.filter_cons_of_pos hp, List.map_cons, List.filterMap_cons_some (b := fy a) (by rw [if_pos hp]), ih]
        | false => rw [List.filter_cons_of_neg (by simp [hp]), List.filterMap_cons_none (by rw [if_neg (by simp [hp])]), ih]
    rw [this]
    exact hQ
end
end Ev
/-! Pgm: the codes of the program's common defs -/
namespace Ev
open PySem PySem.Spec PyProof.Rows L2
/-- power -/
def c_power : S := (.seq (.asg 2 (.int 1)) (.seq (.fr (.nm 3) .rng (.cons (.rd (.sl 1)) .nil) (.seq (.asg 2 (.op .mul (.rd (.sl 2)) (.rd (.sl 0)))) .skip)) (.seq (.ret (.rd (.sl 2))) .skip)))
def n_power : List Str := ["size", "many", "found", "turn"]
abbrev f_power : FnD := ⟨2, 4, c_power⟩
/-- place_of -/
def c_place_of : S := (.seq (.asg 2 (.int 0)) (.seq (.fr (.nm 3) .seq (.cons (.rd (.sl 1)) .nil) (.seq (.asg 2 (.op .add (.op .mul (.rd (.sl 2)) (.rd (.sl 0))) (.rd (.sl 3)))) .skip)) (.seq (.ret (.rd (.sl 2))) .skip)))
def n_place_of : List Str := ["size", "args", "place", "one"]
abbrev f_place_of : FnD := ⟨2, 4, c_place_of⟩
/-- args_at -/
def c_args_at : S := (.seq (.asgO 3 (.lst .nil)) (.seq (.fr (.nm 4) .rng (.cons (.rd (.sl 1)) .nil) (.seq (.mut (.sl 3) .append (.op .mod (.rd (.sl 2)) (.rd (.sl 0)))) (.seq (.asg 2 (.op .fdiv (.rd (.sl 2)) (.rd (.sl 0)))) .skip))) (.seq (.ret (.bi .tuple (.cons (.rev (.own (.sl 3))) .nil))) .skip)))
def n_args_at : List Str := ["size", "arity", "place", "found", "turn"]
abbrev f_args_at : FnD := ⟨3, 5, c_args_at⟩
/-- all_args -/
def c_all_args : S := (.seq (.ret (.comp [2] (.nm 2) .rng (.cons (.cl 0 (.cons (.rd (.sl 0)) (.cons (.rd (.sl 1)) .nil))) .nil) .yes (.cl 2 (.cons (.rd (.sl 0)) (.cons (.rd (.sl 1)) (.cons (.rd (.sl 2)) .nil)))))) .skip)
def n_all_args : List Str := ["size", "arity", "place"]
abbrev f_all_args : FnD := ⟨2, 3, c_all_args⟩
/-- operation -/
def c_operation : S := (.seq (.fr (.tp (.cons (.nm 2) (.cons (.nm 3) (.cons (.nm 4) .nil)))) .seq (.cons (.idx (.rd (.sl 0)) (.int 2)) .nil) (.seq (.ifs (.v (.op .eq (.rd (.sl 2)) (.rd (.sl 1)))) (.seq (.ret (.tup (.cons (.rd (.sl 3)) (.cons (.rd (.sl 4)) .nil)))) .skip) .skip) .skip)) (.seq (.ret .non) .skip))
def n_operation : List Str := ["algebra", "name", "other", "arity", "values"]
abbrev f_operation : FnD := ⟨2, 5, c_operation⟩
/-- applied -/
def c_applied : S := (.seq (.ret (.idx (.idx (.cl 4 (.cons (.rd (.sl 0)) (.cons (.rd (.sl 1)) .nil))) (.int 1)) (.cl 1 (.cons (.idx (.rd (.sl 0)) (.int 1)) (.cons (.rd (.sl 2)) .nil))))) .skip)
def n_applied : List Str := ["algebra", "name", "args"]
abbrev f_applied : FnD := ⟨3, 3, c_applied⟩
/-- value_of -/
def c_value_of : S := (.seq (.ifs (.v (.op .eq (.idx (.rd (.sl 1)) (.int 0)) (.str "var"))) (.seq (.ret (.idx (.rd (.sl 2)) (.idx (.rd (.sl 1)) (.int 1)))) .skip) .skip) (.seq (.ret (.cl 5 (.cons (.rd (.sl 0)) (.cons (.idx (.rd (.sl 1)) (.int 1)) (.cons (.comp [3] (.nm 3) .seq (.cons (.idx (.rd (.sl 1)) (.int 2)) .nil) .yes (.cl 6 (.cons (.rd (.sl 0)) (.cons (.rd (.sl 3)) (.cons (.rd (.sl 2)) .nil))))) .nil))))) .skip))
def n_value_of : List Str := ["algebra", "term", "args", "inner"]
abbrev f_value_of : FnD := ⟨3, 4, c_value_of⟩
/-- table_of -/
def c_table_of : S := (.seq (.ret (.bi .tuple (.cons (.comp [3] (.nm 3) .seq (.cons (.cl 3 (.cons (.idx (.rd (.sl 0)) (.int 1)) (.cons (.rd (.sl 2)) .nil))) .nil) .yes (.cl 6 (.cons (.rd (.sl 0)) (.cons (.rd (.sl 1)) (.cons (.rd (.sl 3)) .nil))))) .nil))) .skip)
def n_table_of : List Str := ["algebra", "term", "many", "args"]
abbrev f_table_of : FnD := ⟨3, 4, c_table_of⟩
/-- variables -/
def c_variables : S := (.seq (.ifs (.v (.op .eq (.idx (.rd (.sl 0)) (.int 0)) (.str "var"))) (.seq (.ret (.lst (.cons (.idx (.rd (.sl 0)) (.int 1)) .nil))) .skip) .skip) (.seq (.asgO 1 (.lst .nil)) (.seq (.fr (.nm 2) .seq (.cons (.idx (.rd (.sl 0)) (.int 2)) .nil) (.seq (.mut (.sl 1) .extend (.cl 8 (.cons (.rd (.sl 2)) .nil))) .skip)) (.seq (.ret (.bi .sortset (.cons (.own (.sl 1)) .nil))) .skip))))
def n_variables : List Str := ["term", "found", "inner"]
abbrev f_variables : FnD := ⟨1, 3, c_variables⟩
/-- many_in -/
def c_many_in : S := (.seq (.asgO 1 (.lst (.cons (.int 0) .nil))) (.seq (.fr (.nm 2) .seq (.cons (.rd (.sl 0)) .nil) (.seq (.mut (.sl 1) .extend (.comp [3] (.nm 3) .seq (.cons (.cl 8 (.cons (.rd (.sl 2)) .nil)) .nil) .yes (.op .add (.rd (.sl 3)) (.int 1)))) .skip)) (.seq (.ret (.bi .max (.cons (.own (.sl 1)) .nil))) .skip)))
def n_many_in : List Str := ["terms", "found", "term", "number"]
abbrev f_many_in : FnD := ⟨1, 4, c_many_in⟩
/-- holds -/
def c_holds : S := (.seq (.fr (.nm 3) .seq (.cons (.cl 3 (.cons (.idx (.rd (.sl 0)) (.int 1)) (.cons (.cl 9 (.cons (.lst (.cons (.rd (.sl 1)) (.cons (.rd (.sl 2)) .nil))) .nil)) .nil))) .nil) (.seq (.ifs (.v (.op .ne (.cl 6 (.cons (.rd (.sl 0)) (.cons (.rd (.sl 1)) (.cons (.rd (.sl 3)) .nil)))) (.cl 6 (.cons (.rd (.sl 0)) (.cons (.rd (.sl 2)) (.cons (.rd (.sl 3)) .nil)))))) (.seq (.ret (.tup (.cons (.str "breaks") (.cons (.rd (.sl 3)) .nil)))) .skip) .skip) .skip)) (.seq (.ret (.tup (.cons (.str "holds") .nil))) .skip))
def n_holds : List Str := ["algebra", "left", "right", "args"]
abbrev f_holds : FnD := ⟨3, 4, c_holds⟩
/-- reduced -/
def c_reduced : S := (.seq (.par [2, 3] (.cons (.rd (.sl 0)) (.cons (.rd (.sl 1)) .nil))) (.seq (.whl (.v (.op .gt (.rd (.sl 3)) (.int 0))) (.seq (.par [2, 3] (.cons (.rd (.sl 3)) (.cons (.op .mod (.rd (.sl 2)) (.rd (.sl 3))) .nil))) .skip)) (.seq (.ret (.ite (.v (.op .gt (.rd (.sl 2)) (.int 0))) (.tup (.cons (.op .fdiv (.rd (.sl 0)) (.rd (.sl 2))) (.cons (.op .fdiv (.rd (.sl 1)) (.rd (.sl 2))) .nil))) (.tup (.cons (.int 0) (.cons (.int 1) .nil))))) .skip)))
def n_reduced : List Str := ["top", "under", "one", "other"]
abbrev f_reduced : FnD := ⟨2, 4, c_reduced⟩
/-- true_at -/
def c_true_at : S := (.seq (.ret (.op .eq (.cl 6 (.cons (.rd (.sl 0)) (.cons (.idx (.rd (.sl 1)) (.int 0)) (.cons (.rd (.sl 2)) .nil)))) (.cl 6 (.cons (.rd (.sl 0)) (.cons (.idx (.rd (.sl 1)) (.int 1)) (.cons (.rd (.sl 2)) .nil)))))) .skip)
def n_true_at : List Str := ["algebra", "rule", "args"]
abbrev f_true_at : FnD := ⟨3, 3, c_true_at⟩
/-- share -/
def c_share : S := (.seq (.asg 3 (.cl 3 (.cons (.idx (.rd (.sl 0)) (.int 1)) (.cons (.rd (.sl 2)) .nil)))) (.seq (.ret (.cl 11 (.cons (.bi .len (.cons (.comp [4] (.nm 4) .seq (.cons (.rd (.sl 3)) .nil) (.v (.cl 12 (.cons (.rd (.sl 0)) (.cons (.rd (.sl 1)) (.cons (.rd (.sl 4)) .nil))))) (.int 1)) .nil)) (.cons (.bi .len (.cons (.rd (.sl 3)) .nil)) .nil)))) .skip))
def n_share : List Str := ["algebra", "rule", "many", "rows", "args"]
abbrev f_share : FnD := ⟨3, 5, c_share⟩
/-- values_hit -/
def c_values_hit : S := (.seq (.asgO 3 (.comp [6] (.nm 6) .rng (.cons (.idx (.rd (.sl 0)) (.int 1)) .nil) .yes (.int 0))) (.seq (.fr (.nm 4) .seq (.cons (.cl 3 (.cons (.idx (.rd (.sl 0)) (.int 1)) (.cons (.rd (.sl 2)) .nil))) .nil) (.seq (.asg 5 (.cl 6 (.cons (.rd (.sl 0)) (.cons (.rd (.sl 1)) (.cons (.rd (.sl 4)) .nil))))) (.seq (.seti (.sl 3) (.rd (.sl 5)) (.op .add (.idx (.own (.sl 3)) (.rd (.sl 5))) (.int 1))) .skip))) (.seq (.frz (.sl 3)) (.seq (.ret (.rd (.sl 3))) .skip))))
def n_values_hit : List Str := ["algebra", "term", "many", "found", "args", "value", "_"]
abbrev f_values_hit : FnD := ⟨3, 7, c_values_hit⟩
abbrev comF : List FnD := [f_power, f_place_of, f_args_at, f_all_args, f_operation, f_applied, f_value_of, f_table_of, f_variables, f_many_in, f_holds, f_reduced, f_true_at, f_share, f_values_hit]
structure Com (G : Prg) : Prop where
  own : ∀ i, i < 15 → G.own i = none
  fns : ∀ i, i < 15 → G.fns[i]? = comF[i]?
  mono : ∀ f g, G.own f = some g → ∀ ds Q Q', (∀ d, Q d → Q' d) → g ds Q → g ds Q'
theorem Phi_fn {G : Prg} {k i : Nat} {D : FnD} {ds : List PyData} {Q : PyData → Prop} (h1 : G.own i = none) (h2 : G.fns[i]? = some D) (h : runD (Phi G k) D ds Q) : Phi G (k + 1) i ds Q := by
  simp only [Phi, h1, h2]
  exact h
theorem Com.go {G : Prg} (c : Com G) (i : Nat) {D : FnD} {k : Nat} {ds : List PyData} {Q : PyData → Prop} (hi : i < 15) (hD : comF[i]? = some D) (h : runD (Phi G k) D ds Q) : Phi G (k + 1) i ds Q :=
  Phi_fn (c.own i hi) ((c.fns i hi).trans hD) h
@[simp] theorem tg_nm {i : Nat} {d : PyData} {ε : Env} : tgS (.nm i) d ε = some (ε.set i (.sh d)) := by rw [tgS]
theorem it_rng (n : Nat) (h : n < 4611686018427387904) : itS .rng [.int (n : Int)] = some ((List.range n).map fun (i : Nat) => .int i) := by
  simp only [itS]
  rw [if_pos (show rngOk (n : Int) from ⟨by omega, by omega⟩), Int.toNat_natCast]
@[simp] theorem it_seqL {ds : List PyData} : itS .seq [.list ds] = some ds := rfl
@[simp] theorem it_seqT {ds : List PyData} : itS .seq [.tuple ds] = some ds := rfl
variable {G : Prg} {k : Nat} {Q : PyData → Prop}
theorem o_muln {a : Int} {n : Nat} (h : n < 4611686018427387904) : op2 .mul (.int a) (.int (n : Int)) = some (.int (a * n)) :=
  o_mul (.inr ⟨by omega, by omega⟩)
theorem o_modn {a n : Nat} (h : 0 < n) : op2 .mod (.int (a : Int)) (.int (n : Int)) = some (.int ((a % n : Nat) : Int)) := by
  rw [o_mod (by omega)]; rfl
theorem o_fdivn {a n : Nat} (h : 0 < n) (h2 : n < 1073741824) : op2 .fdiv (.int (a : Int)) (.int (n : Int)) = some (.int ((a / n : Nat) : Int)) := by
  rw [o_fdiv (show divOk (n : Int) from ⟨by omega, by omega⟩)]; rfl
theorem power_ok (c : Com G) (n m : Nat) (hn : n < 4611686018427387904) (hm : m < 4611686018427387904) (q : Q (.int ((n ^ m : Nat) : Int))) : Phi G (k + 1) 0 [.int n, .int m] Q := by
  refine c.go 0 (by decide) rfl ⟨rfl, ?_⟩
  simp [c_power, entry]
  refine fr_rule (Phi_mono c.mono k) ((List.range m).map fun (i : Nat) => .int i) (fun i ε => ∃ t, ε = [.sh (.int n), .sh (.int m), .sh (.int ((n : Int) ^ i)), t]) ?_ ?_ ?_
  · simp [it_rng m hm]
  · rintro i x ε' hx ⟨t, rfl⟩
    simp [o_muln hn]
    rfl
  · rintro ε' ⟨t, rfl⟩
    simpa using q
/-- data of whole numbers -/
def dI (ns : List Nat) : List PyData := ns.map fun (n : Nat) => PyData.int (n : Int)
@[simp] theorem dI_nil : dI [] = [] := rfl
@[simp] theorem dI_cons {n : Nat} {ns : List Nat} : dI (n :: ns) = .int n :: dI ns := rfl
@[simp] theorem dI_app {ns ms : List Nat} : dI (ns ++ ms) = dI ns ++ dI ms := List.map_append
@[simp] theorem dI_len {ns : List Nat} : (dI ns).length = ns.length := List.length_map _
@[simp] theorem dI_rev {ns : List Nat} : (dI ns).reverse = dI ns.reverse := by unfold dI; rw [List.map_reverse]
theorem dI_map {α : Type} {f : α → Nat} {l : List α} : dI (l.map f) = l.map fun a => PyData.int (f a : Nat) := by unfold dI; rw [List.map_map]; rfl
theorem dI_get {ns : List Nat} {i : Nat} : (dI ns)[i]? = ns[i]?.map fun n => .int (n : Int) := List.getElem?_map ..
theorem dI_some {ns : List Nat} {i : Nat} {x : PyData} (h : (dI ns)[i]? = some x) : ∃ n, ns[i]? = some n ∧ x = .int n := by
  rw [dI_get] at h
  cases e : ns[i]? with
  | none => rw [e] at h; cases h
  | some n => rw [e] at h; cases h; exact ⟨n, rfl, rfl⟩
/-- the place of a row -/
def plc (n : Nat) (as : List Nat) : Nat := as.foldl (fun a x => a * n + x) 0
theorem plc_snoc (n : Nat) (as : List Nat) (x : Nat) : plc n (as ++ [x]) = plc n as * n + x := by unfold plc; rw [List.foldl_append]; rfl
theorem place_ok (c : Com G) (n : Nat) (as : List Nat) (w : PyData) (hw : itS .seq [w] = some (dI as)) (hn : n < 4611686018427387904) (q : Q (.int (plc n as : Nat))) : Phi G (k + 1) 1 [.int n, w] Q := by
  refine c.go 1 (by decide) rfl ⟨rfl, ?_⟩
  simp [c_place_of, entry]
  refine fr_rule (Phi_mono c.mono k) (dI as) (fun i ε => ∃ t, ε = [.sh (.int n), .sh w, .sh (.int (plc n (as.take i) : Nat)), t]) ?_ ?_ ?_
  · simpa [plc] using hw
  · rintro i x ε' hx ⟨t, rfl⟩
    obtain ⟨y, hy, rfl⟩ := dI_some hx
    simp [o_muln hn, List.take_add_one, hy, plc_snoc]
  · rintro ε' ⟨t, rfl⟩
    simpa using q
/-- the digits of a place, the least first -/
def lsb (n : Nat) : Nat → Nat → List Nat
  | 0, _ => []
  | m + 1, p => p % n :: lsb n m (p / n)
theorem lsb_len (n : Nat) : ∀ m p, (lsb n m p).length = m
  | 0, _ => rfl
  | m + 1, p => by rw [lsb, List.length_cons, lsb_len]
def dg (n m p : Nat) : List Nat := (lsb n m p).reverse
theorem dg_len (n m p : Nat) : (dg n m p).length = m := by unfold dg; rw [List.length_reverse, lsb_len]
theorem m_app {ds : List PyData} {d : PyData} (h : ds.length < 16777216) : muS .append (.list ds) d = some (.list (ds ++ [d])) := if_pos h
theorem m_ext {ds es : List PyData} (h : ds.length + es.length ≤ 16777216) : muS .extend (.list ds) (.list es) = some (.list (ds ++ es)) := if_pos h
@[simp] theorem k_app {ds : List PyData} : muK .append (some (.ow (.list ds))) = true := rfl
@[simp] theorem k_ext {ds : List PyData} : muK .extend (some (.ow (.list ds))) = true := rfl
def gFl : Option Sl → Option Fl
  | some (.sh d) => some (.sh d)
  | some (.ow d) => some (.ow d)
  | _ => none
@[simp] theorem get_sl {i : Nat} {ε : Env} : (Pl.sl i).get ε = gFl ε[i]? := by
  simp only [Pl.get]
  cases ε[i]? with
  | none => rfl
  | some s => cases s <;> rfl
@[simp] theorem gFl_sh {d : PyData} : gFl (some (.sh d)) = some (.sh d) := rfl
@[simp] theorem gFl_ow {d : PyData} : gFl (some (.ow d)) = some (.ow d) := rfl
theorem args_ok (c : Com G) (n m p : Nat) (hn0 : 0 < n) (hn : n < 1073741824) (hm : m < 16777216) (q : Q (.tuple (dI (dg n m p)))) : Phi G (k + 1) 2 [.int n, .int m, .int p] Q := by
  refine c.go 2 (by decide) rfl ⟨rfl, ?_⟩
  simp [c_args_at, entry]
  refine fr_rule (Phi_mono c.mono k) ((List.range m).map fun (i : Nat) => .int i) (fun i ε => ∃ t fo pl, ε = [.sh (.int n), .sh (.int m), .sh (.int (pl : Nat)), .ow (.list (dI fo)), t] ∧ fo ++ lsb n (m - i) pl = lsb n m p ∧ fo.length = i) ?_ ?_ ?_
  · simp [it_rng m (by omega)]
    exact ⟨_, [], p, ⟨rfl, rfl, rfl⟩, rfl, rfl⟩
  · rintro i x ε' hx ⟨t, fo, pl, rfl, e1, e2⟩
    have hi : i < m := by
      have := (List.getElem?_eq_some_iff.mp hx).1
      simpa using this
    have hl : (dI fo).length < 16777216 := by rw [dI_len]; omega
    simp only [retE_s, tg_nm, s_seq, s_mut, x_op, x_rd, s_asg, s_skip]
    simp [o_modn hn0, o_fdivn hn0 hn, m_app hl]
    refine ⟨_, fo ++ [pl % n], pl / n, ⟨rfl, by simp, rfl⟩, ?_, by simp [e2]⟩
    rw [← e1, show m - i = (m - (i + 1)) + 1 by omega, lsb]
    simp
  · rintro ε' ⟨t, fo, pl, rfl, e1, e2⟩
    simp at e1 e2
    simp [lsb, e2] at e1
    subst e1
    simpa [dg] using q
/-- all rows of m values below n -/
def rws (n m : Nat) : List (List Nat) := (List.range (n ^ m)).map (dg n m)
def dR (as : List Nat) : PyData := .tuple (dI as)
theorem all_ok' (c : Com G) (n m : Nat) (hn0 : 0 < n) (hn : n < 1073741824) (hm : m < 16777216) (hp : n ^ m ≤ 16777216) (q : Q (.list ((rws n m).map dR))) : Phi G (k + 2) 3 [.int n, .int m] Q := by
  refine c.go 3 (by decide) rfl ⟨rfl, ?_⟩
  simp only [c_all_args, entry, s_seq, s_ret, s_skip]
  refine comp_by (Phi_mono c.mono (k + 1)) (List.range (n ^ m)) (fun i => .int (i : Nat)) (fun i => dR (dg n m i)) ?_ ?_ (by simpa using hp) ?_
  · simp
    refine power_ok c n m (by omega) (by omega) ?_
    exact it_rng _ (by omega)
  · intro a ha
    simp [wipeE, backE]
    exact args_ok c n m a hn0 hn hm rfl
  · unfold rws at q
    rw [List.map_map] at q
    exact q
/-! ### algebras, terms -/
structure Alg where
  n : Nat
  ops : List (Str × Nat × List Nat)
def opD (o : Str × Nat × List Nat) : PyData := .tuple [.str o.1, .int (o.2.1 : Nat), .tuple (dI o.2.2)]
def Alg.d (A : Alg) : PyData := .tuple [.str "algebra", .int (A.n : Nat), .list (A.ops.map opD)]
def Alg.get (A : Alg) (nm : Str) : Option (Nat × List Nat) := (A.ops.find? fun o => decide (o.1 = nm)).map (·.2)
def Alg.wf (A : Alg) : Prop := ∀ o ∈ A.ops, SeqAt.shaped (.str o.1) = true
@[simp] theorem tg_tp {ts : Tgs} {ds : List PyData} {ε : Env} : tgS (.tp ts) (.tuple ds) ε = tgsS ts ds ε := by rw [tgS]
@[simp] theorem tgs_nil {ε : Env} : tgsS .nil [] ε = some ε := by rw [tgsS]
@[simp] theorem tgs_nm {i : Nat} {r : Tgs} {d : PyData} {ds : List PyData} {ε : Env} : tgsS (.cons (.nm i) r) (d :: ds) ε = tgsS r ds (ε.set i (.sh d)) := by rw [tgsS, tg_nm]
@[simp] theorem tgs_tp {ts r : Tgs} {es ds : List PyData} {ε : Env} : tgsS (.cons (.tp ts) r) (.tuple es :: ds) ε = (tgsS ts es ε).bind fun ε' => tgsS r ds ε' := by
  rw [tgsS, tg_tp]
  cases tgsS ts es ε <;> rfl
theorem o_eqs {a b : Str} (ha : SeqAt.shaped (.str a) = true) (hb : SeqAt.shaped (.str b) = true) : op2 .eq (.str a) (.str b) = some (.bool (decide (a = b))) := by rw [o_eq ha hb, eqv_str]
theorem find_ix {α : Type} {p : α → Bool} {l : List α} {i : Nat} {x : α} (h : l[i]? = some x) : (l.drop i).find? p = if p x = true then some x else (l.drop (i + 1)).find? p := by
  obtain ⟨hl, e⟩ := List.getElem?_eq_some_iff.mp h
  rw [List.drop_eq_getElem_cons hl, e, List.find?_cons]
  cases p x <;> rfl
theorem map_some {α : Type} {f : α → PyData} {l : List α} {i : Nat} {x : PyData} (h : (l.map f)[i]? = some x) : ∃ a, l[i]? = some a ∧ x = f a := by
  rw [List.getElem?_map] at h
  cases e : l[i]? with
  | none => rw [e] at h; cases h
  | some a => rw [e] at h; cases h; exact ⟨a, rfl, rfl⟩
theorem oper_ok (c : Com G) (A : Alg) (nm : Str) (ar : Nat) (vs : List Nat) (hw : A.wf) (hs : SeqAt.shaped (.str nm) = true) (h : A.get nm = some (ar, vs)) (q : Q (.tuple [.int (ar : Nat), .tuple (dI vs)])) : Phi G (k + 1) 4 [A.d, .str nm] Q := by
  refine c.go 4 (by decide) rfl ⟨rfl, ?_⟩
  simp [c_operation, entry]
  refine fr_rule (Phi_mono c.mono k) (A.ops.map opD) (fun i ε => (∃ a b c, ε = [.sh A.d, .sh (.str nm), a, b, c]) ∧ ((A.ops.drop i).find? fun o => decide (o.1 = nm)).map (·.2) = some (ar, vs)) ?_ ?_ ?_
  · simp [Alg.d]
    simpa [Alg.get] using h
  · rintro i x ε' hx ⟨⟨a, b, c', rfl⟩, hf⟩
    obtain ⟨o, ho, rfl⟩ := map_some hx
    rw [find_ix ho] at hf
    have hos := hw o (List.mem_of_getElem? ho)
    simp only [opD, tg_tp, tgs_nm, tgs_nil, retE_s, s_seq, s_ifs, x_v, x_op, x_rd]
    simp [o_eqs hos hs]
    by_cases e : o.1 = nm
    · rw [if_pos (by simpa using e)] at hf
      have : o.2 = (ar, vs) := by simpa using hf
      rw [if_pos e, this]
      exact q
    · rw [if_neg (by simpa using e)] at hf
      rw [if_neg e]
      simpa using hf
  · rintro ε' ⟨⟨a, b, c', rfl⟩, hf⟩
    simp at hf
theorem appl_ok (c : Com G) (A : Alg) (nm : Str) (ar : Nat) (vs as : List Nat) (r : Nat) (w : PyData) (hw : A.wf) (hs : SeqAt.shaped (.str nm) = true) (h : A.get nm = some (ar, vs)) (hn : A.n < 4611686018427387904) (ha : itS .seq [w] = some (dI as)) (hr : vs[plc A.n as]? = some r) (q : Q (.int (r : Nat))) : Phi G (k + 2) 5 [A.d, .str nm, w] Q := by
  refine c.go 5 (by decide) rfl ⟨rfl, ?_⟩
  simp [c_applied, entry]
  refine oper_ok c A nm ar vs hw hs h ?_
  simp [Alg.d]
  refine place_ok c A.n as w ha hn ?_
  rw [i_t, atN (by rw [dI_get, hr]; rfl)]
  exact q
mutual
inductive Tm | v (i : Nat) | o (nm : Str) (ts : Tms)
inductive Tms | nil | cons (t : Tm) (r : Tms)
end
mutual
def Tm.d : Tm → PyData
  | .v i => .tuple [.str "var", .int (i : Nat)]
  | .o nm ts => .tuple [.str "op", .str nm, .list ts.ds]
def Tms.ds : Tms → List PyData
  | .nil => []
  | .cons t r => t.d :: r.ds
end
def Tms.l : Tms → List Tm
  | .nil => []
  | .cons t r => t :: r.l
theorem Tms.ds_l : ∀ ts : Tms, ts.ds = ts.l.map Tm.d
  | .nil => by rw [Tms.ds, Tms.l]; rfl
  | .cons t r => by rw [Tms.ds, Tms.l, List.map_cons, Tms.ds_l r]
mutual
def Tm.dep : Tm → Nat
  | .v _ => 0
  | .o _ ts => ts.dep + 1
def Tms.dep : Tms → Nat
  | .nil => 0
  | .cons t r => max t.dep r.dep
end
mutual
def Tm.val (A : Alg) (as : List Nat) : Tm → Option Nat
  | .v i => as[i]?
  | .o nm ts => match A.get nm, ts.vals A as with
    | some o, some xs => o.2[plc A.n xs]?
    | _, _ => none
def Tms.vals (A : Alg) (as : List Nat) : Tms → Option (List Nat)
  | .nil => some []
  | .cons t r => match t.val A as, r.vals A as with
    | some x, some xs => some (x :: xs)
    | _, _ => none
end
theorem Tms.dep_l : ∀ {ts : Tms} {t : Tm}, t ∈ ts.l → t.dep ≤ ts.dep
  | .nil, t, h => by rw [Tms.l] at h; cases h
  | .cons u r, t, h => by
    rw [Tms.l] at h
    rw [Tms.dep]
    rcases List.mem_cons.mp h with rfl | h
    · exact Nat.le_max_left _ _
    · exact Nat.le_trans (Tms.dep_l h) (Nat.le_max_right _ _)
theorem Tms.vals_l {A : Alg} {as : List Nat} : ∀ {ts : Tms} {xs : List Nat}, ts.vals A as = some xs → ts.l.map (fun t => PyData.int ((t.val A as).getD 0 : Nat)) = dI xs ∧ ∀ t, t ∈ ts.l → ∃ r, t.val A as = some r
  | .nil, xs, h => by
    rw [Tms.vals] at h
    cases h
    exact ⟨rfl, fun t h => by rw [Tms.l] at h; cases h⟩
  | .cons u r, xs, h => by
    rw [Tms.vals] at h
    cases e1 : u.val A as with
    | none => rw [e1] at h; cases h
    | some x =>
      cases e2 : r.vals A as with
      | none => rw [e1, e2] at h; cases h
      | some ys =>
        rw [e1, e2] at h
        cases h
        obtain ⟨h1, h2⟩ := Tms.vals_l e2
        rw [Tms.l]
        refine ⟨by rw [List.map_cons, h1, e1]; rfl, fun t h => ?_⟩
        rcases List.mem_cons.mp h with rfl | h
        · exact ⟨x, e1⟩
        · exact h2 t h
mutual
def Tm.sz : Tm → Nat
  | .v _ => 1
  | .o _ ts => ts.sz + 1
def Tms.sz : Tms → Nat
  | .nil => 0
  | .cons t r => t.sz + r.sz
end
theorem Tm.sz_pos : ∀ t : Tm, 1 ≤ t.sz
  | .v _ => by rw [Tm.sz]; omega
  | .o _ ts => by rw [Tm.sz]; omega
theorem Tms.sz_l : ∀ (ts : Tms), ts.l.length ≤ ts.sz ∧ ∀ t, t ∈ ts.l → t.sz ≤ ts.sz
  | .nil => ⟨by rw [Tms.l, Tms.sz]; exact Nat.le_refl _, fun t h => by rw [Tms.l] at h; cases h⟩
  | .cons u r => by
    obtain ⟨h1, h2⟩ := Tms.sz_l r
    have := u.sz_pos
    rw [Tms.l, Tms.sz]
    refine ⟨by rw [List.length_cons]; omega, fun t h => ?_⟩
    rcases List.mem_cons.mp h with rfl | h
    · omega
    · have := h2 t h; omega
theorem e_vv : op2 .eq (.str ("var" : Str)) (.str ("var" : Str)) = some (.bool true) := by rw [o_eqs (by decide +kernel) (by decide +kernel)]; rfl
theorem e_ov : op2 .eq (.str ("op" : Str)) (.str ("var" : Str)) = some (.bool false) := by rw [o_eqs (by decide +kernel) (by decide +kernel)]; rfl
theorem Alg.sh {A : Alg} (hw : A.wf) {nm : Str} {o : Nat × List Nat} (h : A.get nm = some o) : SeqAt.shaped (.str nm) = true := by
  unfold Alg.get at h
  cases e : A.ops.find? fun o => decide (o.1 = nm) with
  | none => rw [e] at h; cases h
  | some x =>
    have h1 := List.mem_of_find?_eq_some e
    have h2 := List.find?_some e
    have h3 : x.1 = nm := by simpa using h2
    rw [← h3]
    exact hw x h1
theorem value_ok (c : Com G) (A : Alg) (as : List Nat) (w : PyData) (hw : A.wf) (hn : A.n < 4611686018427387904) (hi : ∀ (i r : Nat), as[i]? = some r → ixS w (.int (i : Nat)) = some (.int (r : Nat))) : ∀ (k : Nat) (t : Tm) (r : Nat) (Q : PyData → Prop), t.dep ≤ k → t.sz ≤ 16777216 → t.val A as = some r → Q (.int (r : Nat)) → Phi G (k + 3) 6 [A.d, t.d, w] Q
  | k, .v i, r, Q, _, _, h, q => by
    rw [Tm.val] at h
    refine c.go 6 (by decide) rfl ⟨rfl, ?_⟩
    simp [c_value_of, entry, Tm.d, e_vv]
    rw [hi i r h]
    exact q
  | 0, .o nm ts, r, Q, hd, _, h, q => by rw [Tm.dep] at hd; omega
  | k + 1, .o nm ts, r, Q, hd, hz, h, q => by
    rw [Tm.dep] at hd
    rw [Tm.sz] at hz
    rw [Tm.val] at h
    cases e1 : A.get nm with
    | none => rw [e1] at h; cases h
    | some o =>
      cases e2 : ts.vals A as with
      | none => rw [e1, e2] at h; cases h
      | some xs =>
        rw [e1, e2] at h
        obtain ⟨v1, v2⟩ := Tms.vals_l e2
        refine c.go 6 (by decide) rfl ⟨rfl, ?_⟩
        simp [c_value_of, entry, Tm.d, e_ov]
        refine comp_by (Phi_mono c.mono (k + 3)) ts.l Tm.d (fun t => PyData.int ((t.val A as).getD 0 : Nat)) ?_ ?_ ?_ ?_
        · simp [Tms.ds_l]
        · intro t ht
          obtain ⟨y, hy⟩ := v2 t ht
          simp [wipeE, backE]
          refine value_ok c A as w hw hn hi k t y _ (Nat.le_trans (Tms.dep_l ht) (by omega)) (Nat.le_trans ((Tms.sz_l ts).2 t ht) (by omega)) hy ?_
          simp [hy]
        · have := (Tms.sz_l ts).1
          show ts.l.length ≤ 16777216
          omega
        · rw [v1]
          exact appl_ok c A nm o.1 o.2 xs r _ hw (A.sh hw e1) e1 hn rfl h q
/-- a row as a tuple, a list -/
theorem at_tup {as : List Nat} (i r : Nat) (h : as[i]? = some r) : ixS (.tuple (dI as)) (.int (i : Nat)) = some (.int (r : Nat)) := by
  rw [i_t, atN (by rw [dI_get, h]; rfl)]
theorem rws_len (n m : Nat) : (rws n m).length = n ^ m := by unfold rws; rw [List.length_map, List.length_range]
theorem table_ok (c : Com G) (A : Alg) (t : Tm) (m : Nat) (f : List Nat → Nat) (hw : A.wf) (hn0 : 0 < A.n) (hn : A.n < 1073741824) (hm : m < 16777216) (hp : A.n ^ m ≤ 16777216) (hd : t.dep ≤ k) (hz : t.sz ≤ 16777216)
    (hf : ∀ as, as ∈ rws A.n m → t.val A as = some (f as)) (q : Q (.tuple (dI ((rws A.n m).map f)))) : Phi G (k + 4) 7 [A.d, t.d, .int (m : Nat)] Q := by
  refine c.go 7 (by decide) rfl ⟨rfl, ?_⟩
  simp only [c_table_of, entry, s_seq, s_ret, s_skip, x_bi, x_cons, x_nil]
  refine comp_by (Phi_mono c.mono (k + 3)) (rws A.n m) dR (fun as => .int (f as : Nat)) ?_ ?_ ?_ ?_
  · simp [Alg.d]
    refine all_ok' c A.n m hn0 hn hm hp ?_
    simp
  · intro as ha
    simp [wipeE, backE]
    refine value_ok c A as (dR as) hw (by omega) at_tup k t (f as) _ hd hz (hf as ha) ?_
    simp
  · show (rws A.n m).length ≤ 16777216
    rw [rws_len]; exact hp
  · rw [dI_map] at q
    simpa using q
/-! ### variables -/
theorem insI_mem {x y : Int} : ∀ {l : List Int}, x ∈ insI y l ↔ x = y ∨ x ∈ l
  | [] => by simp [insI]
  | z :: r => by
    unfold insI
    split
    · simp
    · split
      · rename_i h; subst h; simp
      · rw [List.mem_cons, insI_mem, List.mem_cons]
        constructor
        · rintro (h | h | h) <;> simp [h]
        · rintro (h | h | h) <;> simp [h]
theorem insI_len {y : Int} : ∀ {l : List Int}, (insI y l).length ≤ l.length + 1
  | [] => by simp [insI]
  | z :: r => by
    unfold insI
    split
    · simp
    · split
      · simp
      · have := insI_len (y := y) (l := r)
        simp only [List.length_cons]; omega
theorem sortU_mem {x : Int} : ∀ {l : List Int}, x ∈ sortU l ↔ x ∈ l
  | [] => by simp [sortU]
  | y :: r => by
    have := sortU_mem (x := x) (l := r)
    show x ∈ insI y (sortU r) ↔ _
    rw [insI_mem, this, List.mem_cons]
theorem sortU_len : ∀ {l : List Int}, (sortU l).length ≤ l.length
  | [] => by simp [sortU]
  | y :: r => by
    have := sortU_len (l := r)
    have h := insI_len (y := y) (l := sortU r)
    show (insI y (sortU r)).length ≤ _
    rw [List.length_cons]; omega
def dZ (ns : List Int) : List PyData := ns.map .int
theorem intsOf_dZ : ∀ ns : List Int, intsOf (dZ ns) = some ns
  | [] => rfl
  | n :: ns => by
    show (intsOf (dZ ns)).map (n :: ·) = _
    rw [intsOf_dZ ns]; rfl
mutual
def Tm.vs : Tm → List Int
  | .v i => [(i : Int)]
  | .o _ ts => sortU ts.vs
def Tms.vs : Tms → List Int
  | .nil => []
  | .cons t r => t.vs ++ r.vs
end
mutual
theorem Tm.vs_len : ∀ t : Tm, t.vs.length ≤ t.sz
  | .v i => by rw [Tm.vs, Tm.sz]; exact Nat.le_refl _
  | .o nm ts => by
    rw [Tm.vs, Tm.sz]
    have := Tms.vs_len ts
    have h := sortU_len (l := ts.vs)
    omega
theorem Tms.vs_len : ∀ ts : Tms, ts.vs.length ≤ ts.sz
  | .nil => by rw [Tms.vs, Tms.sz]; exact Nat.le_refl _
  | .cons t r => by
    rw [Tms.vs, Tms.sz, List.length_append]
    have := Tm.vs_len t
    have := Tms.vs_len r
    omega
end
theorem Tms.vs_l : ∀ ts : Tms, ts.vs = (ts.l.map Tm.vs).flatten
  | .nil => by rw [Tms.vs, Tms.l]; rfl
  | .cons t r => by rw [Tms.vs, Tms.l, List.map_cons, List.flatten_cons, Tms.vs_l r]
theorem take_flat {α : Type} {f : α → List Int} {l : List α} {i : Nat} {a : α} (h : l[i]? = some a) : ((l.take (i + 1)).map f).flatten = ((l.take i).map f).flatten ++ f a := by
  rw [List.take_add_one, h]
  simp
theorem take_flat_len {α : Type} {f : α → List Int} : ∀ {l : List α} (i : Nat), ((l.take i).map f).flatten.length ≤ (l.map f).flatten.length
  | [], i => by simp
  | a :: l, 0 => by simp
  | a :: l, i + 1 => by
    have := take_flat_len (f := f) (l := l) i
    rw [List.take_succ_cons, List.map_cons, List.flatten_cons, List.map_cons, List.flatten_cons, List.length_append, List.length_append]; omega
def pre (l : List Tm) (i : Nat) : List Int := ((l.take i).map Tm.vs).flatten
theorem pre_succ {l : List Tm} {i : Nat} {t : Tm} (h : l[i]? = some t) : pre l (i + 1) = pre l i ++ t.vs := take_flat h
theorem pre_all (ts : Tms) : pre ts.l ts.l.length = ts.vs := by unfold pre; rw [List.take_length, Tms.vs_l]
theorem pre_len (ts : Tms) (i : Nat) : (pre ts.l i).length ≤ ts.vs.length := by rw [Tms.vs_l]; exact take_flat_len i
theorem dZ_app {a b : List Int} : dZ (a ++ b) = dZ a ++ dZ b := List.map_append
theorem dZ_len {a : List Int} : (dZ a).length = a.length := List.length_map _
theorem vars_ok (c : Com G) : ∀ (k : Nat) (t : Tm) (Q : PyData → Prop), t.dep ≤ k → t.sz ≤ 63 → Q (.list (dZ t.vs)) → Phi G (k + 1) 8 [t.d] Q
  | k, .v i, Q, _, _, q => by
    rw [Tm.vs] at q
    refine c.go 8 (by decide) rfl ⟨rfl, ?_⟩
    simp [c_variables, entry, Tm.d, e_vv]
    exact q
  | 0, .o nm ts, Q, hd, _, q => by rw [Tm.dep] at hd; omega
  | k + 1, .o nm ts, Q, hd, hz, q => by
    rw [Tm.dep] at hd
    rw [Tm.sz] at hz
    rw [Tm.vs] at q
    have hl := Tms.vs_len ts
    refine c.go 8 (by decide) rfl ⟨rfl, ?_⟩
    simp [c_variables, entry, Tm.d, e_ov]
    refine fr_rule (Phi_mono c.mono (k + 1)) (ts.l.map Tm.d) (fun i ε => ∃ b, ε = [.sh (Tm.o nm ts).d, .ow (.list (dZ (pre ts.l i))), b]) ?_ ?_ ?_
    · simp [Tms.ds_l, Tm.d, dZ, pre]
    · rintro i x ε' hx ⟨b, rfl⟩
      obtain ⟨t, ht, rfl⟩ := map_some hx
      have hm := List.mem_of_getElem? ht
      simp
      refine vars_ok c k t _ (Nat.le_trans (Tms.dep_l hm) (by omega)) (Nat.le_trans ((Tms.sz_l ts).2 t hm) (by omega)) ?_
      have h1 := pre_succ ht
      have h2 := pre_len ts (i + 1)
      rw [h1, List.length_append] at h2
      rw [m_ext (by rw [dZ_len, dZ_len]; omega)]
      simp [h1, dZ_app]
    · rintro ε' ⟨b, rfl⟩
      rw [List.length_map, pre_all]
      have f : fnS .sortset [.list (dZ ts.vs)] = some (.list (dZ (sortU ts.vs))) := by
        show (match intsOf (dZ ts.vs) with
          | some ns => if ns.length < 64 then some (PyData.list ((sortU ns).map .int)) else none
          | _ => none) = _
        rw [intsOf_dZ]
        exact if_pos (by omega)
      simp [f]
      exact q
end Ev
/-! Pgn: more specs of the program's common defs -/
namespace Ev
open PySem PySem.Spec PyProof.Rows L2
variable {G : Prg} {k : Nat} {Q : PyData → Prop}
def prm (l : List Tm) (i : Nat) : List Int := ((l.take i).map fun t => t.vs.map (· + 1)).flatten
theorem prm_succ {l : List Tm} {i : Nat} {t : Tm} (h : l[i]? = some t) : prm l (i + 1) = prm l i ++ t.vs.map (· + 1) := take_flat h
def manyL (l : List Tm) : List Int := prm l l.length
theorem prm_len (l : List Tm) (i : Nat) : (prm l i).length ≤ (manyL l).length := by
  unfold manyL prm
  rw [List.take_length]
  exact take_flat_len i
theorem f_max {x : Int} {xs : List Int} : fnS .max [.list (dZ (x :: xs))] = some (.int (maxL x xs)) := by
  show (match intsOf (dZ (x :: xs)) with
    | some (n :: ns) => some (PyData.int (maxL n ns))
    | _ => none) = _
  rw [intsOf_dZ]
theorem many_ok (c : Com G) (l : List Tm) (hd : ∀ t, t ∈ l → t.dep ≤ k ∧ t.sz ≤ 63) (hl : (manyL l).length ≤ 1000) (q : Q (.int (maxL 0 (manyL l)))) : Phi G (k + 2) 9 [.list (l.map Tm.d)] Q := by
  refine c.go 9 (by decide) rfl ⟨rfl, ?_⟩
  simp [c_many_in, entry]
  refine fr_rule (Phi_mono c.mono (k + 1)) (l.map Tm.d) (fun i ε => ∃ b, ε = [.sh (.list (l.map Tm.d)), .ow (.list (dZ (0 :: prm l i))), b, .un]) ?_ ?_ ?_
  · simp [dZ, prm]
  · rintro i x ε' hx ⟨b, rfl⟩
    obtain ⟨t, ht, rfl⟩ := map_some hx
    have hm := List.mem_of_getElem? ht
    simp
    refine comp_by (Phi_mono c.mono (k + 1)) t.vs (fun n => .int n) (fun n => .int (n + 1)) ?_ ?_ ?_ ?_
    · simp
      refine vars_ok c k t _ (hd t hm).1 (hd t hm).2 ?_
      rfl
    · intro a ha
      simp [wipeE, backE]
    · have := t.vs_len
      have := (hd t hm).2
      show t.vs.length ≤ 16777216
      omega
    · have h1 := prm_succ ht
      have h2 := prm_len l (i + 1)
      rw [h1, List.length_append, List.length_map] at h2
      have e : t.vs.map (fun n => PyData.int (n + 1)) = dZ (t.vs.map (· + 1)) := by unfold dZ; rw [List.map_map]; rfl
      rw [e]
      simp
      rw [m_ext (by rw [dZ_len, dZ_len, List.length_cons, List.length_map]; omega)]
      simp [h1]
      exact (dZ_app (a := 0 :: prm l i)).symm
  · rintro ε' ⟨b, rfl⟩
    simp
    rw [f_max]
    exact q
@[simp] theorem sa_nil {ε : Env} : setAll [] [] ε = some ε := rfl
@[simp] theorem sa_cons {i : Nat} {is : List Nat} {d : PyData} {ds : List PyData} {ε : Env} : setAll (i :: is) (d :: ds) ε = setAll is ds (ε.set i (.sh d)) := rfl
/-- the share's pair -/
def redD (a b : Nat) : PyData := if 0 < Nat.gcd a b then .tuple [.int (a / Nat.gcd a b : Nat), .int (b / Nat.gcd a b : Nat)] else .tuple [.int 0, .int 1]
theorem red_ok (c : Com G) (a b : Nat) (ha : a < 1073741824) (hb : b < 1073741824) (q : Q (redD a b)) : Phi G (k + 1) 11 [.int (a : Nat), .int (b : Nat)] Q := by
  refine c.go 11 (by decide) rfl ⟨rfl, ?_⟩
  simp [c_reduced, entry]
  refine whl_rule (Phi_mono c.mono k) (fun m ε => ∃ x : Nat, ε = [.sh (.int (a : Nat)), .sh (.int (b : Nat)), .sh (.int (x : Nat)), .sh (.int (m : Nat))] ∧ Nat.gcd x m = Nat.gcd a b) b ⟨a, rfl, rfl⟩ ?_
  rintro m ε' ⟨x, rfl, hg⟩
  by_cases hm : 0 < m
  · have hm' : (0 : Int) < m := by omega
    simp [hm, o_modn hm]
    refine ⟨x % m, Nat.mod_lt _ hm, m, ⟨rfl, rfl⟩, ?_⟩
    rw [← hg, Nat.gcd_comm x m, Nat.gcd_rec m x, Nat.gcd_comm]
  · have : m = 0 := by omega
    subst this
    rw [Nat.gcd_zero_right] at hg
    subst hg
    simp
    unfold redD at q
    by_cases hg : 0 < Nat.gcd a b
    · have hlt : Nat.gcd a b < 1073741824 := by
        by_cases h0 : 0 < a
        · exact Nat.lt_of_le_of_lt (Nat.gcd_le_left b h0) ha
        · have : a = 0 := by omega
          subst this
          rw [Nat.gcd_zero_left]; exact hb
      rw [if_pos hg] at q
      rw [if_pos (Nat.gcd_pos_iff.mp hg)]
      simp [o_fdivn hg hlt]
      exact q
    · rw [if_neg hg] at q
      rw [if_neg (fun z => hg (Nat.gcd_pos_iff.mpr z))]
      exact q
@[simp] theorem castEq {x y : Nat} : ((x : Int) = (y : Int)) ↔ x = y := Int.ofNat_inj
/-- holds -/
def hldD (rows : List (List Nat)) (f g : List Nat → Nat) : PyData := match rows.find? fun as => !decide (f as = g as) with
  | some as => .tuple [.str "breaks", dR as]
  | none => .tuple [.str "holds"]
theorem holds_ok (c : Com G) (A : Alg) (l r : Tm) (mx : Nat) (f g : List Nat → Nat) (hw : A.wf) (hn0 : 0 < A.n) (hn : A.n < 1073741824) (hp : A.n ^ mx ≤ 16777216) (hx : maxL 0 (manyL [l, r]) = mx) (hmx : mx < 16777216)
    (hdl : l.dep ≤ k ∧ l.sz ≤ 63) (hdr : r.dep ≤ k ∧ r.sz ≤ 63) (hf : ∀ as, as ∈ rws A.n mx → l.val A as = some (f as)) (hg : ∀ as, as ∈ rws A.n mx → r.val A as = some (g as)) (q : Q (hldD (rws A.n mx) f g)) : Phi G (k + 4) 10 [A.d, l.d, r.d] Q := by
  refine c.go 10 (by decide) rfl ⟨rfl, ?_⟩
  simp only [c_holds, entry, s_seq, s_skip]
  refine fr_rule (Phi_mono c.mono (k + 3)) ((rws A.n mx).map dR) (fun i ε => (∃ b, ε = [.sh A.d, .sh l.d, .sh r.d, b]) ∧ ((rws A.n mx).drop i).find? (fun as => !decide (f as = g as)) = (rws A.n mx).find? fun as => !decide (f as = g as)) ?_ ?_ ?_
  · simp [Alg.d]
    refine many_ok c [l, r] ?_ ?_ ?_
    · intro t ht
      simp at ht
      rcases ht with rfl | rfl
      · exact ⟨by omega, hdl.2⟩
      · exact ⟨by omega, hdr.2⟩
    · have h1 := l.vs_len
      have h2 := r.vs_len
      simp [manyL, prm]
      omega
    · rw [hx]
      refine all_ok' c A.n mx hn0 hn hmx hp ?_
      simp
  · rintro i x ε' hx' ⟨⟨b, rfl⟩, hi⟩
    obtain ⟨as, has, rfl⟩ := map_some hx'
    have hm := List.mem_of_getElem? has
    rw [find_ix has] at hi
    simp only [retE_s, tg_nm, s_seq, s_skip, s_ifs, x_v, x_op, x_cl, x_cons, x_rd, x_nil]
    simp
    refine value_ok c A as (dR as) hw (by omega) at_tup k l (f as) _ hdl.1 (by omega) (hf as hm) ?_
    refine value_ok c A as (dR as) hw (by omega) at_tup k r (g as) _ hdr.1 (by omega) (hg as hm) ?_
    simp
    by_cases e : f as = g as
    · simp [e] at hi
      simp [e]
      exact hi
    · simp [e] at hi
      have e' : ¬ ((f as : Int) = g as) := by omega
      simp [e]
      unfold hldD at q
      rw [← hi] at q
      exact q
  · rintro ε' ⟨⟨b, rfl⟩, hi⟩
    simp at hi
    simp
    unfold hldD at q
    rw [← hi] at q
    exact q
theorem true_ok (c : Com G) (A : Alg) (l r : Tm) (as : List Nat) (x y : Nat) (hw : A.wf) (hn : A.n < 1073741824) (hdl : l.dep ≤ k ∧ l.sz ≤ 63) (hdr : r.dep ≤ k ∧ r.sz ≤ 63) (hf : l.val A as = some x) (hg : r.val A as = some y) (q : Q (.bool (decide (x = y)))) :
    Phi G (k + 4) 12 [A.d, .tuple [l.d, r.d], dR as] Q := by
  refine c.go 12 (by decide) rfl ⟨rfl, ?_⟩
  simp [c_true_at, entry]
  refine value_ok c A as (dR as) hw (by omega) at_tup k l x _ hdl.1 (by omega) hf ?_
  refine value_ok c A as (dR as) hw (by omega) at_tup k r y _ hdr.1 (by omega) hg ?_
  simpa using q
theorem share_ok (c : Com G) (A : Alg) (l r : Tm) (m : Nat) (f g : List Nat → Nat) (hw : A.wf) (hn0 : 0 < A.n) (hn : A.n < 1073741824) (hm : m < 16777216) (hp : A.n ^ m ≤ 16777216) (hdl : l.dep ≤ k ∧ l.sz ≤ 63) (hdr : r.dep ≤ k ∧ r.sz ≤ 63)
    (hf : ∀ as, as ∈ rws A.n m → l.val A as = some (f as)) (hg : ∀ as, as ∈ rws A.n m → r.val A as = some (g as)) (q : Q (redD ((rws A.n m).filter fun as => decide (f as = g as)).length (A.n ^ m))) : Phi G (k + 5) 13 [A.d, .tuple [l.d, r.d], .int (m : Nat)] Q := by
  refine c.go 13 (by decide) rfl ⟨rfl, ?_⟩
  simp [c_share, entry]
  simp [Alg.d]
  refine all_ok' c A.n m hn0 hn hm hp ?_
  refine comp_if (Phi_mono c.mono (k + 4)) (rws A.n m) (fun as => decide (f as = g as)) dR (fun _ => .int 1) ?_ ?_ ?_ ?_
  · simp
  · intro as ha
    simp [wipeE, backE]
    refine true_ok c A l r as (f as) (g as) hw hn hdl hdr (hf as ha) (hg as ha) ?_
    by_cases e : f as = g as <;> simp [e]
  · show (rws A.n m).length ≤ 16777216
    rw [rws_len]; exact hp
  · simp
    rw [rws_len]
    refine red_ok c _ _ ?_ ?_ q
    · have := List.length_filter_le (fun as => decide (f as = g as)) (rws A.n m)
      rw [rws_len] at this
      omega
    · omega
@[simp] theorem owB_ow {d : PyData} : owB (some (.ow d)) = true := rfl
theorem set_ok {ns : List Nat} {x v : Nat} (h : x < ns.length) : setS (.list (dI ns)) (.int (x : Nat)) (.int (v : Nat)) = some (.list (dI (ns.set x v))) := by
  show (match ixN (dI ns).length (x : Int) with
    | some j => some (PyData.list ((dI ns).set j _))
    | none => none) = _
  rw [ixN_at (by rw [dI_len]; exact h)]
  unfold dI
  rw [List.map_set]
def cnts (n : Nat) (xs : List Nat) : List Nat := (List.range n).map fun v => xs.count v
theorem cnts_snoc {n x : Nat} {xs : List Nat} (h : x < n) : cnts n (xs ++ [x]) = (cnts n xs).set x (xs.count x + 1) := by
  apply List.ext_getElem
  · simp [cnts]
  · intro i h1 h2
    simp [cnts] at h1
    by_cases e : i = x
    · subst e
      simp [cnts]
    · rw [List.getElem_set_ne (by omega)]
      simp [cnts, List.count_append, List.count_singleton]
      intro z
      omega
theorem hit_ok (c : Com G) (A : Alg) (t : Tm) (m : Nat) (f : List Nat → Nat) (hw : A.wf) (hn0 : 0 < A.n) (hn : A.n ≤ 16777216) (hm : m < 16777216) (hp : A.n ^ m ≤ 16777216) (hd : t.dep ≤ k) (hz : t.sz ≤ 16777216)
    (hf : ∀ as, as ∈ rws A.n m → t.val A as = some (f as) ∧ f as < A.n) (q : Q (.list (dI (cnts A.n ((rws A.n m).map f))))) : Phi G (k + 4) 14 [A.d, t.d, .int (m : Nat)] Q := by
  refine c.go 14 (by decide) rfl ⟨rfl, ?_⟩
  simp only [c_values_hit, entry, s_seq, s_asgO, s_skip]
  refine comp_by (Phi_mono c.mono (k + 3)) (List.range A.n) (fun i => .int (i : Nat)) (fun _ => .int 0) ?_ ?_ ?_ ?_
  · simp [Alg.d]
    exact it_rng _ (by omega)
  · intro a ha
    simp [wipeE, backE]
  · simpa using hn
  · refine fr_rule (Phi_mono c.mono (k + 3)) ((rws A.n m).map dR) (fun i ε => ∃ a b, ε = [.sh A.d, .sh t.d, .sh (.int (m : Nat)), .ow (.list (dI (cnts A.n (((rws A.n m).map f).take i)))), a, b, .un]) ?_ ?_ ?_
    · simp [Alg.d]
      refine all_ok' c A.n m hn0 (by omega) hm hp ?_
      simp [cnts]
      exact (dI_map (f := fun _ => 0)).symm
    · rintro i x ε' hx ⟨a, b, rfl⟩
      obtain ⟨as, has, rfl⟩ := map_some hx
      have hmem := List.mem_of_getElem? has
      obtain ⟨h1, h2⟩ := hf as hmem
      simp
      refine value_ok c A as (dR as) hw (by omega) at_tup k t (f as) _ hd hz h1 ?_
      have e1 : ((rws A.n m).map f).take (i + 1) = ((rws A.n m).map f).take i ++ [f as] := by rw [List.take_add_one, List.getElem?_map, has]; rfl
      have e2 : (cnts A.n (((rws A.n m).map f).take i))[f as]? = some ((((rws A.n m).map f).take i).count (f as)) := by
        unfold cnts
        rw [List.getElem?_map, List.getElem?_range h2]; rfl
      have e3 : f as < (cnts A.n (((rws A.n m).map f).take i)).length := by unfold cnts; simpa using h2
      generalize hg : ((rws A.n m).map f).take i = xs at *
      simp
      rw [atN (by rw [dI_get, e2]; rfl)]
      simp
      have := set_ok (v := xs.count (f as) + 1) e3
      rw [show ((xs.count (f as) + 1 : Nat) : Int) = (xs.count (f as) : Int) + 1 from rfl] at this
      rw [this]
      rw [e1, cnts_snoc h2]
      first | exact ⟨_, _, rfl⟩ | rfl | simp
    · rintro ε' ⟨a, b, rfl⟩
      simp [frzE]
      rw [List.take_of_length_le (by simp)]
      exact q
end Ev
/-! Cnt: rows of places, sums over products -/
namespace Ev
theorem dg_snoc (n m p : Nat) : dg n (m + 1) p = dg n m (p / n) ++ [p % n] := by unfold dg; rw [lsb, List.reverse_cons]
theorem range_mul (a n : Nat) : List.range (a * n) = (List.range a).flatMap fun q => (List.range n).map fun v => q * n + v := by
  induction a with
  | zero => simp
  | succ a ih =>
    rw [Nat.succ_mul, List.range_add, ih, List.range_succ, List.flatMap_append]
    simp
theorem rws_zero (n : Nat) : rws n 0 = [[]] := rfl
theorem rws_succ (n m : Nat) (h : 0 < n) : rws n (m + 1) = (rws n m).flatMap fun r => (List.range n).map fun v => r ++ [v] := by
  unfold rws
  rw [Nat.pow_succ, range_mul, List.map_flatMap, List.flatMap_map]
  congr 1
  funext q
  rw [List.map_map]
  apply List.map_congr_left
  intro v hv
  have hv : v < n := List.mem_range.mp hv
  show dg n (m + 1) (q * n + v) = _
  rw [dg_snoc, Nat.mul_comm q n, Nat.mul_add_div h, Nat.mul_add_mod, Nat.div_eq_of_lt hv, Nat.mod_eq_of_lt hv, Nat.add_zero]
theorem rws_mem {n : Nat} (h : 0 < n) : ∀ {m : Nat} {as : List Nat}, as ∈ rws n m → as.length = m ∧ ∀ x, x ∈ as → x < n
  | 0, as, ha => by
    rw [rws_zero, List.mem_singleton] at ha
    subst ha
    exact ⟨rfl, fun x h => by cases h⟩
  | m + 1, as, ha => by
    rw [rws_succ n m h, List.mem_flatMap] at ha
    obtain ⟨r, hr, ha⟩ := ha
    obtain ⟨v, hv, rfl⟩ := List.mem_map.mp ha
    obtain ⟨h1, h2⟩ := rws_mem h hr
    refine ⟨by simp [h1], fun x hx => ?_⟩
    rcases List.mem_append.mp hx with hx | hx
    · exact h2 x hx
    · rw [List.mem_singleton] at hx
      subst hx
      exact List.mem_range.mp hv
/-- a sum over a list -/
def sm1 {α : Type} (l : List α) (f : α → Nat) : Nat := (l.map f).sum
theorem sm_nil {α : Type} (f : α → Nat) : sm1 [] f = 0 := rfl
theorem sm_cons {α : Type} (a : α) (l : List α) (f : α → Nat) : sm1 (a :: l) f = f a + sm1 l f := by unfold sm1; rw [List.map_cons, List.sum_cons]
theorem sm_app {α : Type} (l r : List α) (f : α → Nat) : sm1 (l ++ r) f = sm1 l f + sm1 r f := by unfold sm1; rw [List.map_append, List.sum_append]
theorem sm_map {α β : Type} (l : List α) (g : α → β) (f : β → Nat) : sm1 (l.map g) f = sm1 l fun a => f (g a) := by unfold sm1; rw [List.map_map]; rfl
theorem sm_flat {α β : Type} (g : α → List β) (f : β → Nat) : ∀ l : List α, sm1 (l.flatMap g) f = sm1 l fun a => sm1 (g a) f
  | [] => rfl
  | a :: l => by rw [List.flatMap_cons, sm_app, sm_cons, sm_flat g f l]
theorem sm_congr {α : Type} {f g : α → Nat} : ∀ {l : List α}, (∀ a, a ∈ l → f a = g a) → sm1 l f = sm1 l g
  | [], _ => rfl
  | a :: l, h => by rw [sm_cons, sm_cons, h a List.mem_cons_self, sm_congr fun b hb => h b (List.mem_cons_of_mem _ hb)]
theorem sm_mul {α : Type} (c : Nat) (f : α → Nat) : ∀ l : List α, sm1 l (fun a => c * f a) = c * sm1 l f
  | [] => by rw [sm_nil, sm_nil, Nat.mul_zero]
  | a :: l => by rw [sm_cons, sm_cons, sm_mul c f l, Nat.mul_add]
theorem sm_mulr {α : Type} (c : Nat) (f : α → Nat) : ∀ l : List α, sm1 l (fun a => f a * c) = sm1 l f * c
  | [] => by rw [sm_nil, sm_nil, Nat.zero_mul]
  | a :: l => by rw [sm_cons, sm_cons, sm_mulr c f l, Nat.add_mul]
/-- a sum over n1 * n2 places -/
theorem sm_range (n1 n2 : Nat) (h : 0 < n2) (F G : Nat → Nat) : sm1 (List.range (n1 * n2)) (fun v => F (v / n2) * G (v % n2)) = sm1 (List.range n1) F * sm1 (List.range n2) G := by
  rw [range_mul, sm_flat, ← sm_mulr]
  apply sm_congr
  intro q _
  rw [sm_map, ← sm_mul]
  apply sm_congr
  intro v hv
  have hv : v < n2 := List.mem_range.mp hv
  rw [Nat.mul_comm q n2, Nat.mul_add_div h, Nat.mul_add_mod, Nat.div_eq_of_lt hv, Nat.mod_eq_of_lt hv, Nat.add_zero]
/-- .. over rows -/
theorem sm_rows (n1 n2 : Nat) (h1 : 0 < n1) (h2 : 0 < n2) : ∀ (m : Nat) (F G : List Nat → Nat), sm1 (rws (n1 * n2) m) (fun r => F (r.map (· / n2)) * G (r.map (· % n2))) = sm1 (rws n1 m) F * sm1 (rws n2 m) G
  | 0, F, G => by
    rw [rws_zero, rws_zero, rws_zero]
    simp [sm1]
  | m + 1, F, G => by
    rw [rws_succ _ _ (Nat.mul_pos h1 h2), rws_succ n1 m h1, rws_succ n2 m h2, sm_flat, sm_flat, sm_flat]
    have e := sm_rows n1 n2 h1 h2 m (fun r => sm1 ((List.range n1).map fun v => r ++ [v]) F) (fun r => sm1 ((List.range n2).map fun v => r ++ [v]) G)
    rw [← e]
    apply sm_congr
    intro r _
    rw [sm_map, sm_map, sm_map]
    have e2 := sm_range n1 n2 h2 (fun v => F (r.map (· / n2) ++ [v])) (fun v => G (r.map (· % n2) ++ [v]))
    rw [← e2]
    apply sm_congr
    intro v _
    simp
theorem sm_filter {α : Type} (p : α → Bool) : ∀ l : List α, (l.filter p).length = sm1 l fun a => if p a = true then 1 else 0
  | [] => rfl
  | a :: l => by
    rw [sm_cons]
    cases h : p a with
    | true => rw [List.filter_cons_of_pos h, List.length_cons, sm_filter p l]; simp; omega
    | false => rw [List.filter_cons_of_neg (by simp [h]), sm_filter p l]; simp
theorem dg_plcR {n : Nat} : ∀ (l : List Nat), (∀ x, x ∈ l.reverse → x < n) → dg n l.reverse.length (plc n l.reverse) = l.reverse ∧ plc n l.reverse < n ^ l.reverse.length := by
  intro l
  induction l with
  | nil => intro _; exact ⟨rfl, by simp [plc]⟩
  | cons v l ih =>
    intro h
    rw [List.reverse_cons] at h ⊢
    generalize l.reverse = as at *
    have hv : v < n := h v (by simp)
    have hn : 0 < n := by omega
    obtain ⟨h1, h2⟩ := ih fun x hx => h x (by simp [hx])
    rw [List.length_append, List.length_singleton, plc_snoc, dg_snoc, Nat.mul_comm _ n, Nat.mul_add_div hn, Nat.mul_add_mod, Nat.div_eq_of_lt hv, Nat.mod_eq_of_lt hv, Nat.add_zero, h1]
    refine ⟨rfl, ?_⟩
    have h3 : (plc n as + 1) * n ≤ n ^ as.length * n := Nat.mul_le_mul_right n h2
    rw [Nat.pow_succ, Nat.mul_comm n]
    rw [Nat.succ_mul] at h3
    omega
theorem dg_plc {n : Nat} (as : List Nat) (h : ∀ x, x ∈ as → x < n) : dg n as.length (plc n as) = as ∧ plc n as < n ^ as.length := by
  have := dg_plcR as.reverse (by rw [List.reverse_reverse]; exact h)
  rw [List.reverse_reverse] at this
  exact this
theorem rws_at {n m : Nat} {as : List Nat} (hl : as.length = m) (h : ∀ x, x ∈ as → x < n) : (rws n m)[plc n as]? = some as := by
  subst hl
  obtain ⟨h1, h2⟩ := dg_plc as h
  unfold rws
  rw [List.getElem?_map, List.getElem?_range h2, Option.map_some, h1]
theorem mem_rws {n m : Nat} {as : List Nat} (hl : as.length = m) (h : ∀ x, x ∈ as → x < n) : as ∈ rws n m := List.mem_of_getElem? (rws_at hl h)
end Ev
/-! Stg: a body by its statements -/
namespace Ev
open PySem PySem.Spec PyProof.Rows L2
def hdS : S → S
  | .seq a _ => a
  | s => s
def tlS : S → S
  | .seq _ b => b
  | s => s
def drS : Nat → S → S
  | 0, c => c
  | n + 1, c => tlS (drS n c)
def isSeq : S → Bool
  | .seq _ _ => true
  | _ => false
/-- a statement that ends at one environment -/
abbrev toE (ε : Env) : Po := { nx := fun ε' => ε' = ε, rt := fun _ _ => False, bk := fun _ => False, ct := fun _ => False }
abbrev toI (I : Env → Prop) : Po := { nx := I, rt := fun _ _ => False, bk := fun _ => False, ct := fun _ => False }
theorem seq_i {Φ : Tab} (hΦ : Φ.Mono) {c : S} {i : Nat} {ε : Env} {P : Po} (I : Env → Prop) (hi : isSeq (drS i c) = true) (h1 : exS Φ (hdS (drS i c)) ε (toI I)) (h2 : ∀ ε', I ε' → exS Φ (drS (i + 1) c) ε' P) : exS Φ (drS i c) ε P := by
  have e : drS i c = .seq (hdS (drS i c)) (drS (i + 1) c) := by
    show _ = S.seq _ (tlS (drS i c))
    revert hi
    cases drS i c <;> intro h <;> first | rfl | cases h
  rw [e, s_seq]
  refine exS_mono hΦ _ ε ?_ h1
  exact ⟨h2, fun _ _ z => z.elim, fun _ z => z.elim, fun _ z => z.elim⟩
theorem seq_e {Φ : Tab} (hΦ : Φ.Mono) {c : S} {i : Nat} {ε ε1 : Env} {P : Po} (hi : isSeq (drS i c) = true) (h1 : exS Φ (hdS (drS i c)) ε (toE ε1)) (h2 : exS Φ (drS (i + 1) c) ε1 P) : exS Φ (drS i c) ε P :=
  seq_i hΦ (fun ε' => ε' = ε1) hi h1 fun ε' e => e ▸ h2
end Ev
/-! Lwh: what the laws' own defs do: draws, algebras, terms, rows, values -/
namespace Ev
open PySem PySem.Spec PyProof.Rows L2
abbrev U : Sl := .un
abbrev dU (n : Nat) : Env := List.replicate n .un
abbrev alg1 (n : Nat) (vs : List Nat) : Alg := ⟨n, [(("m" : Str), 2, vs)]⟩
@[simp] theorem it_zip {a b : List PyData} : itS .zip [.list a, .list b] = some (List.zipWith (fun x y => .tuple [x, y]) a b) := rfl
def full (n : Nat) (vs : List Nat) : Prop := vs.length = n * n ∧ ∀ x, x ∈ vs → x < n
def mm (a b : Tm) : Tm := .o ("m" : Str) (.cons a (.cons b .nil))
inductive TmM (many : Nat) : Nat → Tm → Prop
  | v {i d : Nat} : i < many → TmM many d (.v i)
  | o {a b : Tm} {d : Nat} : TmM many d a → TmM many d b → TmM many (d + 1) (mm a b)
theorem plc2 (n a b : Nat) : plc n [a, b] = a * n + b := by simp [plc]
theorem place_lt {n a b : Nat} (ha : a < n) (hb : b < n) : a * n + b < n * n := by
  have h1 : (a + 1) * n ≤ n * n := Nat.mul_le_mul_right n ha
  rw [Nat.succ_mul] at h1
  omega
theorem dg2 {n a b : Nat} (ha : a < n) (hb : b < n) : dg n 2 (a * n + b) = [a, b] := by
  have hn : 0 < n := by omega
  rw [dg_snoc, dg_snoc]
  rw [Nat.mul_comm a n, Nat.mul_add_div hn, Nat.mul_add_mod, Nat.div_eq_of_lt hb, Nat.mod_eq_of_lt hb, Nat.add_zero, Nat.mod_eq_of_lt ha]
  rfl
theorem rws2_get {n a b : Nat} (ha : a < n) (hb : b < n) : (rws n 2)[a * n + b]? = some [a, b] := by
  unfold rws
  rw [List.getElem?_map, List.getElem?_range (by rw [Nat.pow_two]; exact place_lt ha hb), Option.map_some, dg2 ha hb]
theorem get1 (n : Nat) (vs : List Nat) : (alg1 n vs).get ("m" : Str) = some (2, vs) := by
  unfold Alg.get
  simp
theorem val_mm {n : Nat} {vs as : List Nat} {a b : Tm} {x y : Nat} (h1 : a.val (alg1 n vs) as = some x) (h2 : b.val (alg1 n vs) as = some y) : (mm a b).val (alg1 n vs) as = vs[x * n + y]? := by
  unfold mm
  rw [Tm.val, get1]
  simp only [Tms.vals, h1, h2]
  rw [plc2]
theorem val_ok {n many : Nat} {vs as : List Nat} (hf : full n vs) (hl : as.length = many) (hb : ∀ x, x ∈ as → x < n) : ∀ {d : Nat} {t : Tm}, TmM many d t → ∃ r, t.val (alg1 n vs) as = some r ∧ r < n
  | d, _, .v (i := i) hi => by
    have hi' : i < as.length := by omega
    exact ⟨as[i], by rw [Tm.val]; exact List.getElem?_eq_getElem hi', hb _ (List.getElem_mem hi')⟩
  | d + 1, _, .o ha hb' => by
    obtain ⟨x, e1, h1⟩ := val_ok hf hl hb ha
    obtain ⟨y, e2, h2⟩ := val_ok hf hl hb hb'
    have hp : x * n + y < vs.length := by rw [hf.1]; exact place_lt h1 h2
    exact ⟨vs[x * n + y], by rw [val_mm e1 e2]; exact List.getElem?_eq_getElem hp, hf.2 _ (List.getElem_mem hp)⟩
def dL (as : List Nat) : PyData := .list (dI as)
theorem o_addl {a b : List PyData} (h : a.length + b.length ≤ 16777216) : op2 .add (.list a) (.list b) = some (.list (a ++ b)) := if_pos h
theorem pow_le {n m i : Nat} (h0 : 0 < n) (hi : i ≤ m) : n ^ i ≤ n ^ m := Nat.pow_le_pow_right h0 hi
def vf (n : Nat) (vs : List Nat) (t : Tm) (as : List Nat) : Nat := (t.val (alg1 n vs) as).getD 0
theorem vf_of {n : Nat} {vs as : List Nat} {t : Tm} {r : Nat} (h : t.val (alg1 n vs) as = some r) : vf n vs t as = r := by unfold vf; rw [h]; rfl
theorem vf_ok {n : Nat} {vs : List Nat} (hn : 0 < n) (hf : full n vs) (ht : TmM m d t) : ∀ as, as ∈ rws n m → t.val (alg1 n vs) as = some (vf n vs t as) ∧ vf n vs t as < n := fun as ha => by
  obtain ⟨h1, h2⟩ := rws_mem hn ha
  obtain ⟨r, e, hr⟩ := val_ok hf h1 h2 ht
  rw [vf_of e]
  exact ⟨e, hr⟩
theorem maxL_le {M : Int} : ∀ {l : List Int} {m : Int}, m ≤ M → (∀ x, x ∈ l → x ≤ M) → maxL m l ≤ M
  | [], m, h, _ => h
  | x :: l, m, h, hl => by
    unfold maxL
    refine maxL_le ?_ fun y hy => hl y (List.mem_cons_of_mem _ hy)
    split
    · exact hl x List.mem_cons_self
    · exact h
theorem le_maxL : ∀ {l : List Int} {m : Int}, m ≤ maxL m l ∧ ∀ x, x ∈ l → x ≤ maxL m l
  | [], m => ⟨Int.le_refl _, fun x h => by cases h⟩
  | y :: l, m => by
    unfold maxL
    obtain ⟨h1, h2⟩ := le_maxL (l := l) (m := if y > m then y else m)
    have h3 : m ≤ (if y > m then y else m) ∧ y ≤ (if y > m then y else m) := by split <;> omega
    exact ⟨Int.le_trans h3.1 h1, fun x hx => (List.mem_cons.mp hx).elim (fun e => by rw [e]; exact Int.le_trans h3.2 h1) (h2 x)⟩
theorem tm_vs {many M : Nat} : ∀ {d : Nat} {t : Tm}, TmM many d t → (∀ x, x ∈ t.vs → 0 ≤ x ∧ x < many) ∧ ((∀ x, x ∈ t.vs → x + 1 ≤ (M : Int)) → TmM M d t)
  | d, _, .v (i := i) hi => by
    rw [Tm.vs]
    refine ⟨fun x hx => by rw [List.mem_singleton] at hx; subst hx; omega, fun h => .v ?_⟩
    have := h i List.mem_cons_self
    omega
  | d + 1, _, .o (a := a) (b := b) ha hb => by
    obtain ⟨h1, h2⟩ := tm_vs (M := M) ha
    obtain ⟨h3, h4⟩ := tm_vs (M := M) hb
    have e : ∀ x, x ∈ (mm a b).vs ↔ x ∈ a.vs ∨ x ∈ b.vs := fun x => by
      unfold mm
      rw [Tm.vs, sortU_mem, Tms.vs, Tms.vs, Tms.vs, List.append_nil, List.mem_append]
    refine ⟨fun x hx => ((e x).mp hx).elim (h1 x) (h3 x), fun h => .o (h2 fun x hx => h x ((e x).mpr (.inl hx))) (h4 fun x hx => h x ((e x).mpr (.inr hx)))⟩
theorem many_of {many d : Nat} {l r : Tm} (hl : TmM many d l) (hr : TmM many d r) : ∃ mx : Nat, maxL 0 (manyL [l, r]) = mx ∧ mx ≤ many ∧ TmM mx d l ∧ TmM mx d r := by
  have hm : ∀ x, x ∈ manyL [l, r] ↔ (∃ y, y ∈ l.vs ∧ x = y + 1) ∨ ∃ y, y ∈ r.vs ∧ x = y + 1 := fun x => by
    have : manyL [l, r] = l.vs.map (· + 1) ++ r.vs.map (· + 1) := by simp [manyL, prm]
    rw [this, List.mem_append, List.mem_map, List.mem_map]
    constructor
    · rintro (⟨y, h, rfl⟩ | ⟨y, h, rfl⟩)
      · exact .inl ⟨y, h, rfl⟩
      · exact .inr ⟨y, h, rfl⟩
    · rintro (⟨y, h, rfl⟩ | ⟨y, h, rfl⟩)
      · exact .inl ⟨y, h, rfl⟩
      · exact .inr ⟨y, h, rfl⟩
  obtain ⟨h0, h1⟩ := le_maxL (l := manyL [l, r]) (m := 0)
  have h2 : maxL 0 (manyL [l, r]) ≤ (many : Int) := maxL_le (by omega) fun x hx => by
    rcases (hm x).mp hx with ⟨y, hy, rfl⟩ | ⟨y, hy, rfl⟩
    · have := ((tm_vs (M := 0) hl).1 y hy).2; omega
    · have := ((tm_vs (M := 0) hr).1 y hy).2; omega
  obtain ⟨mx, e⟩ : ∃ mx : Nat, maxL 0 (manyL [l, r]) = mx := ⟨_, (Int.toNat_of_nonneg h0).symm⟩
  refine ⟨mx, e, by omega, (tm_vs hl).2 fun x hx => ?_, (tm_vs hr).2 fun x hx => ?_⟩
  · rw [← e]; exact h1 _ ((hm _).mpr (.inl ⟨x, hx, rfl⟩))
  · rw [← e]; exact h1 _ ((hm _).mpr (.inr ⟨x, hx, rfl⟩))
theorem tm_size {many : Nat} : ∀ {d : Nat} {t : Tm}, TmM many d t → t.dep ≤ d ∧ t.sz ≤ 2 ^ (d + 1) - 1
  | d, _, .v (i := i) hi => by
    rw [Tm.dep, Tm.sz]
    have : 2 ^ 1 ≤ 2 ^ (d + 1) := Nat.pow_le_pow_right (by decide) (by omega)
    omega
  | d + 1, _, .o (a := a) (b := b) ha hb => by
    obtain ⟨h1, h2⟩ := tm_size ha
    obtain ⟨h3, h4⟩ := tm_size hb
    have p : 0 < 2 ^ (d + 1) := Nat.pow_pos (by decide)
    unfold mm
    rw [Tm.dep, Tm.sz, Tms.dep, Tms.dep, Tms.dep, Tms.sz, Tms.sz, Tms.sz, Nat.pow_succ 2 (d + 1)]
    exact ⟨by omega, by omega⟩
theorem hld_eq (rows : List (List Nat)) (f g : List Nat → Nat) (hs : ∀ as, as ∈ rows → as.length ≤ 1000) : op2 .eq (hldD rows f g) (.tuple [.str "holds"]) = some (.bool (decide (∀ as, as ∈ rows → f as = g as))) := by
  have s1 : SeqAt.shaped (.tuple [.str ("holds" : Str)]) = true := by decide +kernel
  unfold hldD
  cases e : rows.find? fun as => !decide (f as = g as) with
  | none =>
    have h : ∀ as, as ∈ rows → f as = g as := fun as ha => by simpa using List.find?_eq_none.mp e as ha
    rw [o_eq s1 s1, decide_eq_true h]
    rfl
  | some as =>
    have h1 := List.mem_of_find?_eq_some e
    have h2 := List.find?_some e
    have h : ¬ ∀ as, as ∈ rows → f as = g as := fun z => by
      have := z as h1
      simp [this] at h2
    have s2 : SeqAt.shaped (.tuple [.str ("breaks" : Str), dR as]) = true := by
      have c : ∀ l : List Nat, PyData.canLayAll0 (dI l) = true ∧ PyData.depthAll (dI l) = 0 := by
        intro l
        induction l with
        | nil => exact ⟨by rw [dI_nil, PyData.canLayAll0], by rw [dI_nil, PyData.depthAll]⟩
        | cons a l ih => exact ⟨by rw [dI_cons, PyData.canLayAll0, ih.1, PyData.canLay0]; rfl, by rw [dI_cons, PyData.depthAll, ih.2, PyData.depth]; rfl⟩
      unfold SeqAt.shaped dR
      rw [Bool.and_eq_true, decide_eq_true_eq]
      refine ⟨?_, ?_⟩
      · rw [PyData.canLay0, PyData.canLayAll0, PyData.canLayAll0, PyData.canLayAll0, PyData.canLay0, PyData.canLay0, (c as).1]
        decide +kernel
      · rw [PyData.depth, PyData.depthAll, PyData.depthAll, PyData.depthAll, PyData.depth, PyData.depth, (c as).2]
        decide
    rw [o_eq s2 s1, decide_eq_false h]
    simp [PyData.eqv, PyData.eqvAll]
theorem shm : SeqAt.shaped (.str ("m" : Str)) = true := by decide +kernel
theorem wf1 (n : Nat) (vs : List Nat) : (alg1 n vs).wf := by
  intro o ho
  simp at ho
  subst ho
  exact shm
theorem pw {n e : Nat} (hn : n ≤ 4) (he : e ≤ 2) : n ^ e ≤ 16 := by
  have h1 : n ^ e ≤ 4 ^ e := Nat.pow_le_pow_left hn e
  have h2 : 4 ^ e ≤ 4 ^ 2 := Nat.pow_le_pow_right (by decide) he
  omega
theorem o_mulN {a n : Nat} (h : n < 4611686018427387904) : op2 .mul (.int (a : Nat)) (.int (n : Nat)) = some (.int ((a * n : Nat) : Int)) := by
  rw [o_muln h]; rfl
theorem red_pos {a b : Nat} (h : 0 < b) : redD a b = .tuple [.int (a / Nat.gcd a b : Nat), .int (b / Nat.gcd a b : Nat)] := if_pos (Nat.gcd_pos_of_pos_right _ h)
theorem div_small {a g M : Nat} (h : a ≤ M) : a / g ≤ M := Nat.le_trans (Nat.div_le_self a g) h
theorem flat_dI : ∀ l : List Nat, PyData.canLayAll0 (dI l) = true ∧ PyData.depthAll (dI l) = 0 := by
  intro l
  induction l with
  | nil => exact ⟨by rw [dI_nil, PyData.canLayAll0], by rw [dI_nil, PyData.depthAll]⟩
  | cons a l ih => exact ⟨by rw [dI_cons, PyData.canLayAll0, ih.1, PyData.canLay0]; rfl, by rw [dI_cons, PyData.depthAll, ih.2, PyData.depth]; rfl⟩
theorem sh_L (l : List Nat) : SeqAt.shaped (.list (dI l)) = true := by
  unfold SeqAt.shaped
  rw [Bool.and_eq_true, decide_eq_true_eq]
  refine ⟨?_, ?_⟩
  · rw [PyData.canLay0, (flat_dI l).1]
  · rw [PyData.depth, (flat_dI l).2]; decide
theorem eqvAll_dI : ∀ l : List Nat, PyData.eqvAll (dI l) (dI l) = true := by
  intro l
  induction l with
  | nil => rw [dI_nil, PyData.eqvAll]
  | cons a l ih => rw [dI_cons, PyData.eqvAll, ih, eqv_int]; simp
theorem eqv_L (l : List Nat) : PyData.eqv (.list (dI l)) (.list (dI l)) = true := by rw [PyData.eqv]; exact eqvAll_dI l
theorem ne_L (l : List Nat) : op2 .ne (.list (dI l)) (.list (dI l)) = some (.bool false) := by rw [o_ne (sh_L l) (sh_L l), eqv_L]; rfl
theorem eq_L (l : List Nat) : op2 .eq (.list (dI l)) (.list (dI l)) = some (.bool true) := by rw [o_eq (sh_L l) (sh_L l), eqv_L]
theorem cnt_len {xs : List Nat} {k : Nat} : (xs.filter fun x => decide (x = k)).length = xs.count k := by
  rw [List.count_eq_length_filter]
  congr 2
theorem eqv_bool {a b : Bool} : PyData.eqv (.bool a) (.bool b) = (a == b) := by rw [PyData.eqv]
/-! ### the laws' own defs, by their numbers -/
def q_algebra (t : Nat) : S := (.seq (.ret (.tup (.cons (.str "algebra") (.cons (.rd (.sl 1)) (.cons (.lst (.cons (.tup (.cons (.str "m") (.cons (.int 2) (.cons (.bi .tuple (.cons (.comp [2] (.nm 2) .rng (.cons (.op .mul (.rd (.sl 1)) (.rd (.sl 1))) .nil) .yes (.cl t (.cons (.rd (.sl 0)) (.cons (.rd (.sl 1)) .nil)))) .nil)) .nil)))) .nil)) .nil))))) .skip)
def q_term (t i : Nat) : S := (.seq (.ifs (.or (.v (.op .eq (.rd (.sl 2)) (.int 0))) (.v (.op .eq (.cl t (.cons (.rd (.sl 0)) (.cons (.int 3) .nil))) (.int 0)))) (.seq (.ret (.tup (.cons (.str "var") (.cons (.cl t (.cons (.rd (.sl 0)) (.cons (.rd (.sl 1)) .nil))) .nil)))) .skip) .skip) (.seq (.ret (.tup (.cons (.str "op") (.cons (.str "m") (.cons (.lst (.cons (.cl i (.cons (.rd (.sl 0)) (.cons (.rd (.sl 1)) (.cons (.op .sub (.rd (.sl 2)) (.int 1)) .nil)))) (.cons (.cl i (.cons (.rd (.sl 0)) (.cons (.rd (.sl 1)) (.cons (.op .sub (.rd (.sl 2)) (.int 1)) .nil)))) .nil))) .nil))))) .skip))
def q_value (i : Nat) : S := (.seq (.ifs (.v (.op .eq (.idx (.rd (.sl 1)) (.int 0)) (.str "var"))) (.seq (.ret (.idx (.rd (.sl 2)) (.idx (.rd (.sl 1)) (.int 1)))) .skip) .skip) (.seq (.ret (.idx (.idx (.idx (.idx (.rd (.sl 0)) (.int 2)) (.int 0)) (.int 2)) (.op .add (.op .mul (.cl i (.cons (.rd (.sl 0)) (.cons (.idx (.idx (.rd (.sl 1)) (.int 2)) (.int 0)) (.cons (.rd (.sl 2)) .nil)))) (.idx (.rd (.sl 0)) (.int 1))) (.cl i (.cons (.rd (.sl 0)) (.cons (.idx (.idx (.rd (.sl 1)) (.int 2)) (.int 1)) (.cons (.rd (.sl 2)) .nil))))))) .skip))
def q_args : S := (.seq (.asg 2 (.lst (.cons (.lst .nil) .nil))) (.seq (.fr (.nm 3) .rng (.cons (.rd (.sl 1)) .nil) (.seq (.asgO 4 (.lst .nil)) (.seq (.fr (.nm 5) .seq (.cons (.rd (.sl 2)) .nil) (.seq (.mut (.sl 4) .extend (.comp [6] (.nm 6) .rng (.cons (.rd (.sl 0)) .nil) .yes (.op .add (.rd (.sl 5)) (.lst (.cons (.rd (.sl 6)) .nil))))) .skip)) (.seq (.frz (.sl 4)) (.seq (.asg 2 (.rd (.sl 4))) .skip))))) (.seq (.ret (.rd (.sl 2))) .skip)))
structure Gm (G : Prg) : Prop where
  mono : ∀ f g, G.own f = some g → ∀ ds Q Q', (∀ d, Q d → Q' d) → g ds Q → g ds Q'
section
variable {G : Prg} {k t i : Nat} {Q : PyData → Prop}
theorem take_ok (ht : G.own t = some takeG) (m : Nat) (h0 : 0 < m) (hm : m < 1073741824) (q : ∀ r : Nat, r < m → Q (.int (r : Nat))) : Phi G (k + 1) t [stD, .int (m : Nat)] Q := by
  have e : Phi G (k + 1) t = takeG := by funext ds Q; simp [Phi, ht]
  rw [e]
  refine ⟨m, rfl, by omega, by omega, fun r h1 h2 => ?_⟩
  obtain ⟨n, rfl⟩ : ∃ n : Nat, r = n := ⟨r.toNat, by omega⟩
  exact q n (by omega)
theorem algebra_ok (M : Gm G) (ht : G.own t = some takeG) (hi : G.own i = none) (hf : G.fns[i]? = some ⟨2, 3, q_algebra t⟩) (n : Nat) (h0 : 0 < n) (hn : n < 1000) (q : ∀ vs, full n vs → Q (alg1 n vs).d) : Phi G (k + 2) i [stD, .int (n : Nat)] Q := by
  refine Phi_fn hi hf ⟨rfl, ?_⟩
  simp [q_algebra, entry]
  have hnn : n * n < 1000000 := by
    have := Nat.mul_le_mul (Nat.le_of_lt_succ hn) (Nat.le_of_lt_succ hn)
    omega
  refine comp_each (Phi_mono M.mono (k + 1)) ((List.range (n * n)).map fun (i : Nat) => .int i) (fun _ y => ∃ r : Nat, y = .int (r : Nat) ∧ r < n) ?_ ?_ ?_ ?_
  · simp [o_muln (show n < 4611686018427387904 by omega)]
    have := it_rng (n * n) (by omega)
    simpa using this
  · intro d hd
    simp [wipeE, backE]
    refine take_ok ht n h0 (by omega) fun r hr => ⟨r, rfl, hr⟩
  · rw [List.length_map, List.length_range]
    show n * n ≤ 16777216
    omega
  · intro ys hl hy
    have : ∃ vs : List Nat, ys = dI vs ∧ ∀ x, x ∈ vs → x < n := by
      have h : ∀ (zs : List PyData), (∀ z, z ∈ zs → ∃ r : Nat, z = .int (r : Nat) ∧ r < n) → ∃ vs : List Nat, zs = dI vs ∧ ∀ x, x ∈ vs → x < n := by
        intro zs
        induction zs with
        | nil => intro _; exact ⟨[], rfl, fun x h => by cases h⟩
        | cons z zs ih =>
          intro h
          obtain ⟨r, rfl, hr⟩ := h z List.mem_cons_self
          obtain ⟨vs, rfl, hv⟩ := ih fun y hy => h y (List.mem_cons_of_mem _ hy)
          exact ⟨r :: vs, rfl, fun x hx => (List.mem_cons.mp hx).elim (fun e => e ▸ hr) (hv x)⟩
      refine h ys fun z hz => ?_
      obtain ⟨i, hi, e⟩ := List.mem_iff_getElem.mp hz
      have hi2 : i < ((List.range (n * n)).map fun (i : Nat) => PyData.int i).length := by rw [← hl]; exact hi
      exact hy i _ z (List.getElem?_eq_getElem hi2) (by rw [List.getElem?_eq_getElem hi, e])
    obtain ⟨vs, rfl, hv⟩ := this
    rw [dI_len, List.length_map, List.length_range] at hl
    simp
    exact q vs ⟨hl, hv⟩
theorem term_ok (ht : G.own t = some takeG) (hi : G.own i = none) (hf : G.fns[i]? = some ⟨3, 3, q_term t i⟩) (many : Nat) (h0 : 0 < many) (hm : many < 1000) : ∀ (d k : Nat) (Q : PyData → Prop), d < 1000 → (∀ u, TmM many d u → Q u.d) → Phi G (k + d + 2) i [stD, .int (many : Nat), .int (d : Nat)] Q
  | 0, k, Q, _, q => by
    refine Phi_fn hi hf ⟨rfl, ?_⟩
    simp [q_term, entry]
    refine take_ok ht many h0 (by omega) fun r hr => ?_
    have := q (.v r) (.v hr)
    simpa [Tm.d] using this
  | d + 1, k, Q, hd, q => by
    refine Phi_fn hi hf ⟨rfl, ?_⟩
    have e0 : ¬ ((d : Int) + 1 = 0) := by omega
    simp [q_term, entry, e0]
    refine take_ok ht 3 (by omega) (by omega) fun r hr => ?_
    simp
    by_cases h : r = 0
    · rw [if_pos h]
      refine take_ok ht many h0 (by omega) fun r hr => ?_
      have := q (.v r) (.v hr)
      simpa [Tm.d] using this
    · rw [if_neg h]
      refine term_ok ht hi hf many h0 hm d k _ (by omega) fun a ha => ?_
      refine term_ok ht hi hf many h0 hm d k _ (by omega) fun b hb => ?_
      have := q (mm a b) (.o ha hb)
      simpa [Tm.d, mm, Tms.ds] using this
theorem largs_ok (M : Gm G) (hi : G.own i = none) (hf : G.fns[i]? = some ⟨2, 7, q_args⟩) (n m : Nat) (h0 : 0 < n) (hn : n < 1000) (hm : m < 1000) (hp : n ^ m ≤ 16777216) (q : Q (.list ((rws n m).map dL))) : Phi G (k + 1) i [.int (n : Nat), .int (m : Nat)] Q := by
  refine Phi_fn hi hf ⟨rfl, ?_⟩
  simp [q_args, entry]
  refine fr_rule (Phi_mono M.mono k) ((List.range m).map fun (i : Nat) => .int i) (fun i ε => ∃ a b c, ε = [.sh (.int (n : Nat)), .sh (.int (m : Nat)), .sh (.list ((rws n i).map dL)), a, b, c, .un]) ?_ ?_ ?_
  · simp [it_rng m (by omega), rws_zero, dL]
  · rintro i x ε' hx ⟨a, b, c, rfl⟩
    have hi : i < m := by
      have := (List.getElem?_eq_some_iff.mp hx).1
      simpa using this
    simp
    refine fr_rule (Phi_mono M.mono k) ((rws n i).map dL) (fun j ε => ∃ c, ε = [.sh (.int (n : Nat)), .sh (.int (m : Nat)), .sh (.list ((rws n i).map dL)), .sh x, .ow (.list ((((rws n i).take j).flatMap fun r => (List.range n).map fun v => r ++ [v]).map dL)), c, .un]) ?_ ?_ ?_
    · simp
    · rintro j y ε' hy ⟨c, rfl⟩
      obtain ⟨r, hr, rfl⟩ := map_some hy
      have hmem := List.mem_of_getElem? hr
      have hrl := (rws_mem h0 hmem).1
      simp
      refine comp_by (Phi_mono M.mono k) (List.range n) (fun (i : Nat) => .int (i : Nat)) (fun v => dL (r ++ [v])) ?_ ?_ ?_ ?_
      · simp [it_rng n (by omega)]
      · intro v hv
        simp [wipeE, backE, dL]
        rw [o_addl (by rw [dI_len, hrl]; simp; omega)]
        simp
      · show (List.range n).length ≤ 16777216
        rw [List.length_range]; omega
      · have e1 : (rws n i).take (j + 1) = (rws n i).take j ++ [r] := by rw [List.take_add_one, hr]; rfl
        have hlen : ((((rws n i).take (j + 1)).flatMap fun r => (List.range n).map fun v => r ++ [v]).map dL).length ≤ 16777216 := by
          have hj : j + 1 ≤ (rws n i).length := (List.getElem?_eq_some_iff.mp hr).1
          have e2 : ∀ l : List (List Nat), (l.flatMap fun r => (List.range n).map fun v => r ++ [v]).length = l.length * n := by
            intro l
            induction l with
            | nil => simp
            | cons a l ih => rw [List.flatMap_cons, List.length_append, ih, List.length_map, List.length_range, List.length_cons, Nat.succ_mul]; omega
          rw [List.length_map, e2, List.length_take, Nat.min_eq_left hj]
          rw [rws_len] at hj
          have h3 : (j + 1) * n ≤ n ^ (i + 1) := by rw [Nat.pow_succ]; exact Nat.mul_le_mul_right n hj
          have h4 := pow_le h0 (show i + 1 ≤ m from hi)
          omega
        rw [e1, List.flatMap_append, List.map_append, List.length_append] at hlen
        have e3 : (([r].flatMap fun r => (List.range n).map fun v => r ++ [v]).map dL) = (List.range n).map fun v => dL (r ++ [v]) := by
          simp
        rw [e3] at hlen
        simp only [get_sl, List.getElem?_cons_succ, List.getElem?_cons_zero, gFl_ow, k_app, k_ext, okO_comp, true_and, gOw_ow]
        rw [m_ext hlen, e1, List.flatMap_append, List.map_append, e3]
        exact ⟨_, rfl⟩
    · rintro ε' ⟨c, rfl⟩
      have e : (((rws n i).take ((rws n i).map dL).length).flatMap fun r => (List.range n).map fun v => r ++ [v]) = rws n (i + 1) := by
        rw [List.take_of_length_le (by simp), rws_succ n i h0]
      rw [e]
      simp [frzE]
  · rintro ε' ⟨a, b, c, rfl⟩
    simpa using q
theorem at_lst {as : List Nat} (i r : Nat) (h : as[i]? = some r) : ixS (.list (dI as)) (.int (i : Nat)) = some (.int (r : Nat)) := by
  rw [i_l, atN (by rw [dI_get, h]; rfl)]
theorem lval_ok (hi : G.own i = none) (hf : G.fns[i]? = some ⟨3, 3, q_value i⟩) {n many : Nat} {vs as : List Nat} (hn : n < 1073741824) (hv : full n vs) (hl : as.length = many) (hb : ∀ x, x ∈ as → x < n) (w : PyData) (hw : ∀ (i r : Nat), as[i]? = some r → ixS w (.int (i : Nat)) = some (.int (r : Nat))) :
    ∀ (d k : Nat) (u : Tm) (Q : PyData → Prop), TmM many d u → Q (.int (vf n vs u as : Nat)) → Phi G (k + d + 1) i [(alg1 n vs).d, u.d, w] Q
  | d, k, _, Q, .v (i := j) hj, q => by
    refine Phi_fn hi hf ⟨rfl, ?_⟩
    have hj' : j < as.length := by omega
    have e := List.getElem?_eq_getElem hj'
    have e2 : vf n vs (.v j) as = as[j] := vf_of (by rw [Tm.val]; exact e)
    rw [e2] at q
    simp [q_value, entry, Tm.d, e_vv]
    rw [hw j _ e]
    exact q
  | d + 1, k, _, Q, .o (a := a) (b := b) ha hb', q => by
    refine Phi_fn hi hf ⟨rfl, ?_⟩
    obtain ⟨x, e1, h1⟩ := val_ok hv hl hb ha
    obtain ⟨y, e2, h2⟩ := val_ok hv hl hb hb'
    have hp : x * n + y < vs.length := by rw [hv.1]; exact place_lt h1 h2
    have e3 := List.getElem?_eq_getElem hp
    have e4 : vf n vs (mm a b) as = vs[x * n + y] := vf_of (by rw [val_mm e1 e2]; exact e3)
    rw [e4] at q
    simp [q_value, entry, Tm.d, mm, e_ov, Tms.ds, Alg.d, opD]
    have A := lval_ok hi hf hn hv hl hb w hw d k a
    have B := lval_ok hi hf hn hv hl hb w hw d k b
    simp [Alg.d, opD] at A B
    refine A _ ha ?_
    rw [vf_of e1]
    simp [o_muln (show n < 4611686018427387904 by omega)]
    refine B _ hb' ?_
    rw [vf_of e2]
    simp
    rw [show (x : Int) * n + y = ((x * n + y : Nat) : Int) by push_cast; rfl, atN (by rw [dI_get, e3]; rfl)]
    exact q
end
end Ev
/-! Lwy: data that may be compared; rows; values of terms -/
namespace Ev
open PySem PySem.Spec PyProof.Rows L2
/-- comparable data of some depth -/
def ShK (k : Nat) (d : PyData) : Prop := PyData.canLay0 d = true ∧ PyData.depth d ≤ k
theorem ShK.ok {k : Nat} {d : PyData} (h : ShK k d) (hk : k ≤ 64) : SeqAt.shaped d = true := by
  unfold SeqAt.shaped
  rw [Bool.and_eq_true, decide_eq_true_eq]
  exact ⟨h.1, Nat.le_trans h.2 hk⟩
theorem shp_int (k : Nat) (a : Int) : ShK k (.int a) := ⟨by rw [PyData.canLay0], by rw [PyData.depth]; omega⟩
theorem shp_bool (k : Nat) (a : Bool) : ShK k (.bool a) := ⟨by rw [PyData.canLay0], by rw [PyData.depth]; omega⟩
theorem shp_none (k : Nat) : ShK k .none := ⟨by rw [PyData.canLay0], by rw [PyData.depth]; omega⟩
theorem shp_str (k : Nat) {s : Str} (h : PyData.canLay0 (.str s) = true) : ShK k (.str s) := ⟨h, by rw [PyData.depth]; omega⟩
theorem shp_all {k : Nat} : ∀ {ds : List PyData}, (∀ d, d ∈ ds → ShK k d) → PyData.canLayAll0 ds = true ∧ PyData.depthAll ds ≤ k
  | [], _ => ⟨by rw [PyData.canLayAll0], by rw [PyData.depthAll]; omega⟩
  | d :: ds, h => by
    obtain ⟨h1, h2⟩ := h d List.mem_cons_self
    obtain ⟨h3, h4⟩ := shp_all fun e he => h e (List.mem_cons_of_mem _ he)
    exact ⟨by rw [PyData.canLayAll0, h1, h3]; rfl, by rw [PyData.depthAll]; exact Nat.max_le.mpr ⟨h2, h4⟩⟩
theorem shp_list {k : Nat} {ds : List PyData} (h : ∀ d, d ∈ ds → ShK k d) : ShK (k + 1) (.list ds) := by
  obtain ⟨h1, h2⟩ := shp_all h
  exact ⟨by rw [PyData.canLay0]; exact h1, by rw [PyData.depth]; omega⟩
theorem shp_tup {k : Nat} {ds : List PyData} (h : ∀ d, d ∈ ds → ShK k d) : ShK (k + 1) (.tuple ds) := by
  obtain ⟨h1, h2⟩ := shp_all h
  exact ⟨by rw [PyData.canLay0]; exact h1, by rw [PyData.depth]; omega⟩
theorem shp_dI {k : Nat} (as : List Nat) : ∀ d, d ∈ dI as → ShK k d := fun d hd => by
  obtain ⟨n, _, rfl⟩ := List.mem_map.mp hd
  exact shp_int k n
theorem shp_dL (as : List Nat) : ShK 1 (dL as) := shp_list (shp_dI as)
theorem shp_dR (as : List Nat) : ShK 1 (dR as) := shp_tup (shp_dI as)
theorem shp_map {α : Type} {k : Nat} {f : α → PyData} {as : List α} (h : ∀ a, ShK k (f a)) : ShK (k + 1) (.list (as.map f)) := shp_list fun d hd => by
  obtain ⟨a, _, rfl⟩ := List.mem_map.mp hd
  exact h a
/-- equal data -/
theorem eqvAll_map {α : Type} [DecidableEq α] {f : α → PyData} (h : ∀ a b, PyData.eqv (f a) (f b) = decide (a = b)) : ∀ as bs : List α, PyData.eqvAll (as.map f) (bs.map f) = decide (as = bs)
  | [], [] => by simp [PyData.eqvAll]
  | [], b :: bs => by simp [PyData.eqvAll]
  | a :: as, [] => by simp [PyData.eqvAll]
  | a :: as, b :: bs => by
    rw [List.map_cons, List.map_cons, PyData.eqvAll, h, eqvAll_map h as bs]
    by_cases x : a = b <;> by_cases y : as = bs <;> simp [x, y]
theorem eqv_map {α : Type} [DecidableEq α] {f : α → PyData} (h : ∀ a b, PyData.eqv (f a) (f b) = decide (a = b)) (as bs : List α) : PyData.eqv (.list (as.map f)) (.list (bs.map f)) = decide (as = bs) := by
  rw [PyData.eqv]; exact eqvAll_map h as bs
theorem eqv_mapT {α : Type} [DecidableEq α] {f : α → PyData} (h : ∀ a b, PyData.eqv (f a) (f b) = decide (a = b)) (as bs : List α) : PyData.eqv (.tuple (as.map f)) (.tuple (bs.map f)) = decide (as = bs) := by
  rw [PyData.eqv]; exact eqvAll_map h as bs
theorem eqv_nat (a b : Nat) : PyData.eqv (.int (a : Nat)) (.int (b : Nat)) = decide (a = b) := by rw [eqv_int]; simp
theorem eqv_dL (a b : List Nat) : PyData.eqv (dL a) (dL b) = decide (a = b) := eqv_map eqv_nat a b
theorem eqv_dR (a b : List Nat) : PyData.eqv (dR a) (dR b) = decide (a = b) := eqv_mapT eqv_nat a b
theorem any_map {α : Type} [DecidableEq α] {f : α → PyData} (h : ∀ a b, PyData.eqv (f a) (f b) = decide (a = b)) (a : α) : ∀ as : List α, (as.map f).any (fun z => PyData.eqv z (f a)) = decide (a ∈ as)
  | [] => by simp
  | b :: as => by
    rw [List.map_cons, List.any_cons, any_map h a as, h]
    by_cases x : b = a
    · subst x; simp
    · have x' : ¬ a = b := fun e => x e.symm
      by_cases y : a ∈ as <;> simp [x, x', y]
theorem o_in {a : PyData} {ds : List PyData} (h1 : SeqAt.shaped a = true) (h2 : SeqAt.shaped (.list ds) = true) : op2 .isin a (.list ds) = some (.bool (ds.any fun z => PyData.eqv z a)) := by
  show (if shaped2 a (.list ds) = true then some (PyData.bool (ds.any fun z => PyData.eqv z a)) else none) = _
  rw [if_pos (by unfold shaped2; rw [h1, h2]; rfl)]
theorem o_nin {a : PyData} {ds : List PyData} (h1 : SeqAt.shaped a = true) (h2 : SeqAt.shaped (.list ds) = true) : op2 .notin a (.list ds) = some (.bool (!ds.any fun z => PyData.eqv z a)) := by
  show (if shaped2 a (.list ds) = true then some (PyData.bool (!ds.any fun z => PyData.eqv z a)) else none) = _
  rw [if_pos (by unfold shaped2; rw [h1, h2]; rfl)]
theorem in_dL (a : List Nat) (as : List (List Nat)) : op2 .isin (dL a) (.list (as.map dL)) = some (.bool (decide (a ∈ as))) := by
  rw [o_in ((shp_dL a).ok (by omega)) ((shp_map (fun a => shp_dL a)).ok (by omega)), any_map eqv_dL]
  exact congrArg (fun b => some (PyData.bool b)) (decide_eq_decide.mpr Iff.rfl)
theorem eq_LL (as bs : List (List Nat)) : op2 .eq (.list (as.map dL)) (.list (bs.map dL)) = some (.bool (decide (as = bs))) := by
  rw [o_eq ((shp_map (fun a => shp_dL a)).ok (by omega)) ((shp_map (fun a => shp_dL a)).ok (by omega)), eqv_map eqv_dL]
theorem ne_LL (as bs : List (List Nat)) : op2 .ne (.list (as.map dL)) (.list (bs.map dL)) = some (.bool (!decide (as = bs))) := by
  rw [o_ne ((shp_map (fun a => shp_dL a)).ok (by omega)) ((shp_map (fun a => shp_dL a)).ok (by omega)), eqv_map eqv_dL]
theorem o_eqb {a b : Bool} : op2 .eq (.bool a) (.bool b) = some (.bool (a == b)) := by rw [o_eq (sh_bool _) (sh_bool _), eqv_bool]
theorem o_neb {a b : Bool} : op2 .ne (.bool a) (.bool b) = some (.bool (!(a == b))) := by rw [o_ne (sh_bool _) (sh_bool _), eqv_bool]
@[simp] theorem f_lenL {as : List Nat} : fnS .len [dL as] = some (.int as.length) := by show some (PyData.int (dI as).length) = _; rw [dI_len]
@[simp] theorem it_dL {as : List Nat} : itS .seq [dL as] = some (dI as) := rfl
theorem add_dL {as : List Nat} {v : Nat} (h : as.length < 16777216) : op2 .add (dL as) (.list [.int (v : Nat)]) = some (dL (as ++ [v])) := by
  show op2 .add (.list (dI as)) (.list [.int (v : Nat)]) = _
  rw [o_addl (by simp; omega)]
  simp [dL]
theorem ix_dL {as : List Nat} {i r : Nat} (h : as[i]? = some r) : ixS (dL as) (.int (i : Nat)) = some (.int (r : Nat)) := at_lst i r h
/-! ### values of terms -/
theorem val_mm2 {n n' : Nat} {vs as bs : List Nat} {a b : Tm} (h1 : a.val (alg1 n vs) as = a.val (alg1 n vs) bs) (h2 : b.val (alg1 n vs) as = b.val (alg1 n vs) bs) : (mm a b).val (alg1 n vs) as = (mm a b).val (alg1 n vs) bs := by
  unfold mm
  rw [Tm.val, Tm.val]
  simp only [Tms.vals, h1, h2]
theorem val_pre {n : Nat} {vs as bs : List Nat} {mx : Nat} (h : ∀ i, i < mx → as[i]? = bs[i]?) : ∀ {d : Nat} {t : Tm}, TmM mx d t → t.val (alg1 n vs) as = t.val (alg1 n vs) bs
  | d, _, .v (i := i) hi => by rw [Tm.val, Tm.val]; exact h i hi
  | d + 1, _, .o ha hb => val_mm2 (n' := n) (val_pre h ha) (val_pre h hb)
theorem vf_pre {n : Nat} {vs as bs : List Nat} {mx : Nat} (h : ∀ i, i < mx → as[i]? = bs[i]?) {d : Nat} {t : Tm} (ht : TmM mx d t) : vf n vs t as = vf n vs t bs := by
  unfold vf
  rw [val_pre h ht]
/-- the rows over fewer places -/
theorem rows_pre {n mx m d : Nat} {vs : List Nat} {l r : Tm} (hn : 0 < n) (hx : mx ≤ m) (hl : TmM mx d l) (hr : TmM mx d r) :
    (∀ as, as ∈ rws n mx → vf n vs l as = vf n vs r as) ↔ ∀ as, as ∈ rws n m → vf n vs l as = vf n vs r as := by
  constructor
  · intro h as ha
    obtain ⟨e, hb⟩ := rws_mem hn ha
    have hm : as.take mx ∈ rws n mx := mem_rws (by rw [List.length_take]; omega) fun x hx => hb x (List.mem_of_mem_take hx)
    have g : ∀ i, i < mx → (as.take mx)[i]? = as[i]? := fun i hi => by rw [List.getElem?_take, if_pos hi]
    rw [← vf_pre g hl, ← vf_pre g hr]
    exact h _ hm
  · intro h as ha
    obtain ⟨e, hb⟩ := rws_mem hn ha
    have hm : as ++ List.replicate (m - mx) 0 ∈ rws n m := mem_rws (by simp [e]; omega) fun x hx => by
      rcases List.mem_append.mp hx with hx | hx
      · exact hb x hx
      · rw [List.mem_replicate] at hx; omega
    have g : ∀ i, i < mx → (as ++ List.replicate (m - mx) 0)[i]? = as[i]? := fun i hi => by rw [List.getElem?_append_left (by omega)]
    rw [← vf_pre g hl, ← vf_pre g hr]
    exact h _ hm
theorem rws_nd (n m : Nat) : (rws n m).length = n ^ m := rws_len ..
section
variable {G : Prg} {k : Nat} {Q : PyData → Prop}
theorem trueW_ok (c : Com G) (A : Alg) (l r : Tm) (as : List Nat) (w : PyData) (hwx : ∀ (i r : Nat), as[i]? = some r → ixS w (.int (i : Nat)) = some (.int (r : Nat))) (x y : Nat) (hw : A.wf) (hn : A.n < 1073741824) (hdl : l.dep ≤ k ∧ l.sz ≤ 63) (hdr : r.dep ≤ k ∧ r.sz ≤ 63) (hf : l.val A as = some x) (hg : r.val A as = some y) (q : Q (.bool (decide (x = y)))) :
    Phi G (k + 4) 12 [A.d, .tuple [l.d, r.d], w] Q := by
  refine c.go 12 (by decide) rfl ⟨rfl, ?_⟩
  simp [c_true_at, entry]
  refine value_ok c A as w hw (by omega) hwx k l x _ hdl.1 (by omega) hf ?_
  refine value_ok c A as w hw (by omega) hwx k r y _ hdr.1 (by omega) hg ?_
  simpa using q
end
end Ev
/-! Lwz: rows in their order; lists of tests; many_in of any sequence -/
namespace Ev
open PySem PySem.Spec PyProof.Rows L2
theorem blsOf_map {α : Type} (f : α → Bool) : ∀ xs : List α, blsOf (xs.map fun a => .bool (f a)) = some (xs.map f)
  | [] => rfl
  | x :: xs => by
    show (blsOf (xs.map fun a => .bool (f a))).map (f x :: ·) = _
    rw [blsOf_map f xs]; rfl
theorem f_any {α : Type} (f : α → Bool) (xs : List α) : fnS .any [.list (xs.map fun a => .bool (f a))] = some (.bool (xs.any f)) := by
  show (blsOf _).map (fun ns => PyData.bool (ns.any id)) = _
  rw [blsOf_map, Option.map_some, List.any_map]; rfl
theorem f_all {α : Type} (f : α → Bool) (xs : List α) : fnS .all [.list (xs.map fun a => .bool (f a))] = some (.bool (xs.all f)) := by
  show (blsOf _).map (fun ns => PyData.bool (ns.all id)) = _
  rw [blsOf_map, Option.map_some, List.all_map]; rfl
/-- rows by their first place -/
theorem rws_front (n : Nat) (h : 0 < n) : ∀ k, rws n (k + 1) = (List.range n).flatMap fun v => (rws n k).map (v :: ·)
  | 0 => by
    rw [rws_succ n 0 h, rws_zero]
    simp
    rw [← List.map_eq_flatMap]
  | k + 1 => by
    rw [rws_succ n (k + 1) h]
    conv => lhs; rw [rws_front n h k, List.flatMap_assoc]
    congr 1
    funext v
    rw [rws_succ n k h, List.flatMap_map, List.map_flatMap]
    congr 1
    funext r
    rw [List.map_map]
    rfl
abbrev lx (as bs : List Nat) : Bool := HT.lexLt (as.map fun (n : Nat) => (n : Int)) (bs.map fun (n : Nat) => (n : Int))
theorem lx_cons (a b : Nat) (as bs : List Nat) : lx (a :: as) (b :: bs) = if a = b then lx as bs else decide (a < b) := by
  unfold lx
  rw [List.map_cons, List.map_cons, HT.lexLt_cons]
  by_cases h : a = b
  · subst h; simp
  · rw [if_neg (by omega), if_neg h]; simp
theorem lx_irr : ∀ as : List Nat, lx as as = false
  | [] => rfl
  | a :: as => by rw [lx_cons, if_pos rfl, lx_irr as]
theorem lx_asym : ∀ as bs : List Nat, lx as bs = true → lx bs as = false
  | [], [], h => rfl
  | [], b :: bs, h => rfl
  | a :: as, [], h => by cases h
  | a :: as, b :: bs, h => by
    rw [lx_cons] at h ⊢
    by_cases e : a = b
    · subst e; rw [if_pos rfl] at h ⊢; exact lx_asym as bs h
    · rw [if_neg e] at h
      rw [if_neg (fun z => e z.symm)]
      simp at h ⊢
      omega
theorem rws_lx (n : Nat) (h : 0 < n) : ∀ k, (rws n k).Pairwise fun a b => lx a b = true
  | 0 => by rw [rws_zero]; exact List.pairwise_singleton _ _
  | k + 1 => by
    rw [rws_front n h k, List.pairwise_flatMap]
    refine ⟨fun v _ => ?_, ?_⟩
    · rw [List.pairwise_map]
      refine (rws_lx n h k).imp fun {a b} q => ?_
      rw [lx_cons, if_pos rfl]; exact q
    · refine (List.pairwise_lt_range (n := n)).imp fun {u v} q => ?_
      intro x hx y hy
      obtain ⟨a, _, rfl⟩ := List.mem_map.mp hx
      obtain ⟨b, _, rfl⟩ := List.mem_map.mp hy
      rw [lx_cons, if_neg (by omega)]
      simpa using q
/-- the first of a list in order -/
theorem find_first {p : List Nat → Bool} {as : List Nat} : ∀ {l : List (List Nat)}, l.Pairwise (fun a b => lx a b = true) → l.find? p = some as → ∀ b, b ∈ l → p b = true → lx b as = false
  | [], _, h, _, _, _ => by cases h
  | a :: l, hp, h, b, hb, pb => by
    rw [List.pairwise_cons] at hp
    rw [List.find?_cons] at h
    cases e : p a with
    | true =>
      rw [e] at h
      cases h
      rcases List.mem_cons.mp hb with rfl | hb
      · exact lx_irr _
      · exact lx_asym _ _ (hp.1 b hb)
    | false =>
      rw [e] at h
      rcases List.mem_cons.mp hb with rfl | hb
      · rw [e] at pb; cases pb
      · exact find_first hp.2 h b hb pb
theorem intsOf_dI : ∀ as : List Nat, intsOf (dI as) = some (as.map fun (n : Nat) => (n : Int))
  | [] => rfl
  | a :: as => by
    show (intsOf (dI as)).map ((a : Int) :: ·) = _
    rw [intsOf_dI as]; rfl
theorem lt_dR (as bs : List Nat) : op2 .lt (dR as) (dR bs) = some (.bool (lx as bs)) := by
  show (match intsOf (dI as), intsOf (dI bs) with
    | some xs, some ys => some (PyData.bool (HT.lexLt xs ys))
    | _, _ => none) = _
  rw [intsOf_dI, intsOf_dI]
@[simp] theorem f_lenR {as : List Nat} : fnS .len [dR as] = some (.int as.length) := by show some (PyData.int (dI as).length) = _; rw [dI_len]
@[simp] theorem it_dR {as : List Nat} : itS .seq [dR as] = some (dI as) := rfl
@[simp] theorem f_lstR {as : List Nat} : fnS .list [dR as] = some (dL as) := rfl
@[simp] theorem f_tupL {as : List Nat} : fnS .tuple [dL as] = some (dR as) := rfl
theorem add_dR {as : List Nat} {v : Nat} (h : as.length < 16777216) : op2 .add (dR as) (.tuple [.int (v : Nat)]) = some (dR (as ++ [v])) := by
  show (if (dI as).length + 1 ≤ LIM then some (PyData.tuple (dI as ++ [.int (v : Nat)])) else none) = _
  rw [if_pos (by rw [dI_len]; show _ ≤ 16777216; omega)]
  simp [dR]
section
variable {G : Prg} {k : Nat} {Q : PyData → Prop}
theorem many_okW (c : Com G) (l : List Tm) (w : PyData) (hw : itS .seq [w] = some (l.map Tm.d)) (hd : ∀ t, t ∈ l → t.dep ≤ k ∧ t.sz ≤ 63) (hl : (manyL l).length ≤ 1000) (q : Q (.int (maxL 0 (manyL l)))) : Phi G (k + 2) 9 [w] Q := by
  refine c.go 9 (by decide) rfl ⟨rfl, ?_⟩
  simp [c_many_in, entry]
  refine fr_rule (Phi_mono c.mono (k + 1)) (l.map Tm.d) (fun i ε => ∃ b, ε = [.sh w, .ow (.list (dZ (0 :: prm l i))), b, .un]) ?_ ?_ ?_
  · simp [dZ, prm, hw]
  · rintro i x ε' hx ⟨b, rfl⟩
    obtain ⟨t, ht, rfl⟩ := map_some hx
    have hm := List.mem_of_getElem? ht
    simp
    refine comp_by (Phi_mono c.mono (k + 1)) t.vs (fun n => .int n) (fun n => .int (n + 1)) ?_ ?_ ?_ ?_
    · simp
      refine vars_ok c k t _ (hd t hm).1 (hd t hm).2 ?_
      rfl
    · intro a ha
      simp [wipeE, backE]
    · have := t.vs_len
      have := (hd t hm).2
      show t.vs.length ≤ 16777216
      omega
    · have h1 := prm_succ ht
      have h2 := prm_len l (i + 1)
      rw [h1, List.length_append, List.length_map] at h2
      have e : t.vs.map (fun n => PyData.int (n + 1)) = dZ (t.vs.map (· + 1)) := by unfold dZ; rw [List.map_map]; rfl
      rw [e]
      simp
      rw [m_ext (by rw [dZ_len, dZ_len, List.length_cons, List.length_map]; omega)]
      simp [h1]
      exact (dZ_app (a := 0 :: prm l i)).symm
  · rintro ε' ⟨b, rfl⟩
    simp
    rw [f_max]
    exact q
end
end Ev
/-! Dic: dicts of data -/
namespace Ev
open PySem PySem.Spec PyProof.Rows L2
theorem okK_nil : okK [] = true := rfl
theorem dGet_K {kvs : List (PyData × PyData)} {c : PyData} {k : Key} (ok : okK kvs = true) (e : kOf c = some k) : dGet (.dict kvs) c = some (lookK kvs k) := by
  unfold dGet
  split
  · rename_i e1
    cases e1
    simp [okK, kOf] at ok
  · rename_i e1
    cases e1
    rw [if_pos ok, e]; rfl
  · rename_i h2
    exact (h2 kvs rfl).elim
theorem dGet_T {kvs : List (PyData × PyData)} {c : PyData} {k : List Key} (e : tOf c = some k) : dGet (.dict ((.none, .bool false) :: kvs)) c = some (lookT kvs k) := by
  simp [dGet, e]
theorem dPut_K {kvs : List (PyData × PyData)} {c d : PyData} {k : Key} (ok : okK kvs = true) (e : kOf c = some k) (hl : kvs.length < 16777216) : dPut (.dict kvs) c d = some (.dict (putKd kvs c k d)) := by
  unfold dPut
  split
  · rename_i e1
    cases e1
    simp [okK, kOf] at ok
  · rename_i e1
    cases e1
    rw [if_pos ⟨ok, hl⟩, e]
  · rename_i h2
    exact (h2 kvs rfl).elim
theorem dPut_T {kvs : List (PyData × PyData)} {c d : PyData} {k : List Key} (e : tOf c = some k) (hl : kvs.length < 16777216) : dPut (.dict ((.none, .bool false) :: kvs)) c d = some (.dict ((.none, .bool false) :: putTd kvs c k d)) := by
  have hl' : kvs.length < LIM := hl
  simp [dPut, e, hl']
theorem setS_d {kvs : List (PyData × PyData)} {c d : PyData} : setS (.dict kvs) c d = dPut (.dict kvs) c d := by cases c <;> rfl
theorem in_dict {kvs : List (PyData × PyData)} {c : PyData} : op2 .isin c (.dict kvs) = (dGet (.dict kvs) c).map fun o => .bool o.isSome := by cases c <;> rfl
theorem nin_dict {kvs : List (PyData × PyData)} {c : PyData} : op2 .notin c (.dict kvs) = (dGet (.dict kvs) c).map fun o => .bool (!o.isSome) := by cases c <;> rfl
section
variable {c d : PyData}
theorem look_map (f : PyData → Bool) (g : PyData → Bool) (d : PyData) : ∀ kvs : List (PyData × PyData), ((kvs.map fun kv => if f kv.1 = true then (kv.1, d) else kv).find? fun kv => g kv.1).map (·.2) = (kvs.find? fun kv => g kv.1).map fun kv => if f kv.1 = true then d else kv.2
  | [] => rfl
  | kv :: kvs => by
    rw [List.map_cons, List.find?_cons, List.find?_cons]
    by_cases h : f kv.1 = true
    · rw [if_pos h]
      cases e : g kv.1 with
      | true => simp [h]
      | false => exact look_map f g d kvs
    · rw [if_neg h]
      cases e : g kv.1 with
      | true => simp [h]
      | false => exact look_map f g d kvs
theorem lookK_put {kvs : List (PyData × PyData)} {k : Key} (e : kOf c = some k) (j : Key) : lookK (putKd kvs c k d) j = if j = k then some d else lookK kvs j := by
  unfold putKd lookK
  by_cases h : kvs.any (fun kv => decide (kOf kv.1 = some k)) = true
  · rw [if_pos h]
    have := look_map (fun x => decide (kOf x = some k)) (fun x => decide (kOf x = some j)) d kvs
    simp only [decide_eq_true_eq] at this
    rw [this]
    by_cases hj : j = k
    · subst hj
      rw [if_pos rfl]
      rw [List.any_eq_true] at h
      cases e2 : kvs.find? fun kv => decide (kOf kv.1 = some j) with
      | none =>
        obtain ⟨x, hx, h2⟩ := h
        have := List.find?_eq_none.mp e2 x hx
        exact absurd h2 this
      | some kv =>
        have := List.find?_some e2
        simp at this
        simp [this]
    · rw [if_neg hj]
      cases e2 : kvs.find? fun kv => decide (kOf kv.1 = some j) with
      | none => rfl
      | some kv =>
        have := List.find?_some e2
        simp at this
        simp [this, hj]
  · rw [if_neg h, List.find?_append]
    by_cases hj : j = k
    · subst hj
      rw [if_pos rfl]
      have : kvs.find? (fun kv => decide (kOf kv.1 = some j)) = none := List.find?_eq_none.mpr fun x hx z => h (List.any_eq_true.mpr ⟨x, hx, z⟩)
      rw [this]
      simp [e]
    · rw [if_neg hj]
      cases kvs.find? fun kv => decide (kOf kv.1 = some j) with
      | some kv => rfl
      | none => simp [e]; exact fun z => hj z.symm
theorem lookT_put {kvs : List (PyData × PyData)} {k : List Key} (e : tOf c = some k) (j : List Key) : lookT (putTd kvs c k d) j = if j = k then some d else lookT kvs j := by
  unfold putTd lookT
  by_cases h : kvs.any (fun kv => decide (tOf kv.1 = some k)) = true
  · rw [if_pos h]
    have := look_map (fun x => decide (tOf x = some k)) (fun x => decide (tOf x = some j)) d kvs
    simp only [decide_eq_true_eq] at this
    rw [this]
    by_cases hj : j = k
    · subst hj
      rw [if_pos rfl]
      rw [List.any_eq_true] at h
      cases e2 : kvs.find? fun kv => decide (tOf kv.1 = some j) with
      | none =>
        obtain ⟨x, hx, h2⟩ := h
        have := List.find?_eq_none.mp e2 x hx
        exact absurd h2 this
      | some kv =>
        have := List.find?_some e2
        simp at this
        simp [this]
    · rw [if_neg hj]
      cases e2 : kvs.find? fun kv => decide (tOf kv.1 = some j) with
      | none => rfl
      | some kv =>
        have := List.find?_some e2
        simp at this
        simp [this, hj]
  · rw [if_neg h, List.find?_append]
    by_cases hj : j = k
    · subst hj
      rw [if_pos rfl]
      have : kvs.find? (fun kv => decide (tOf kv.1 = some j)) = none := List.find?_eq_none.mpr fun x hx z => h (List.any_eq_true.mpr ⟨x, hx, z⟩)
      rw [this]
      simp [e]
    · rw [if_neg hj]
      cases kvs.find? fun kv => decide (tOf kv.1 = some j) with
      | some kv => rfl
      | none => simp [e]; exact fun z => hj z.symm
theorem okK_put {kvs : List (PyData × PyData)} {k : Key} (ok : okK kvs = true) (e : kOf c = some k) : okK (putKd kvs c k d) = true := by
  unfold putKd
  unfold okK at ok ⊢
  split
  · rw [List.all_map]
    rw [List.all_eq_true] at ok ⊢
    intro x hx
    show (kOf (if kOf x.1 = some k then (x.1, d) else x).1).isSome = true
    split <;> exact ok x hx
  · rw [List.all_append, ok]
    simp [e]
theorem len_putK {kvs : List (PyData × PyData)} {k : Key} : (putKd kvs c k d).length ≤ kvs.length + 1 := by
  unfold putKd
  split <;> simp
theorem len_putT {kvs : List (PyData × PyData)} {k : List Key} : (putTd kvs c k d).length ≤ kvs.length + 1 := by
  unfold putTd
  split <;> simp
theorem putK_new {kvs : List (PyData × PyData)} {k : Key} (h : lookK kvs k = none) : putKd kvs c k d = kvs ++ [(c, d)] := by
  unfold putKd
  rw [if_neg]
  intro z
  obtain ⟨x, hx, h2⟩ := List.any_eq_true.mp z
  unfold lookK at h
  rw [Option.map_eq_none_iff] at h
  exact absurd h2 (List.find?_eq_none.mp h x hx)
theorem putT_new {kvs : List (PyData × PyData)} {k : List Key} (h : lookT kvs k = none) : putTd kvs c k d = kvs ++ [(c, d)] := by
  unfold putTd
  rw [if_neg]
  intro z
  obtain ⟨x, hx, h2⟩ := List.any_eq_true.mp z
  unfold lookT at h
  rw [Option.map_eq_none_iff] at h
  exact absurd h2 (List.find?_eq_none.mp h x hx)
end
theorem dOk_K {kvs : List (PyData × PyData)} (ok : okK kvs = true) : dOk (.dict kvs) = true := by
  unfold dOk
  split
  · rename_i e1
    cases e1
    rfl
  · rename_i e1
    cases e1
    exact ok
  · rename_i h2
    exact (h2 kvs rfl).elim
theorem mtS_get2 {d c x : PyData} : mtS .get d [c, x] = (dGet d c).map fun o => o.getD x := by cases d <;> rfl
theorem mtS_get1 {d c : PyData} : mtS .get d [c] = (dGet d c).map fun o => o.getD .none := by cases d <;> rfl
@[simp] theorem mtK_get {d : PyData} : mtK .get d = dOk d := by cases d <;> rfl
@[simp] theorem kOf_int {i : Int} : kOf (.int i) = some (.inl i) := rfl
end Ev
namespace Ev.K52
open PySem PySem.Spec PyProof.Rows L2 Ev
def topS (i : Nat) : Stmt := PySem.Challenge.pw_tablewright_k52_solutions_and_shares.main.body.getD i (.Pass ⟨0, 0, 0, 0⟩)
def cfT : Cfg := ⟨[some ("power", 2), some ("place_of", 2), some ("args_at", 3), some ("all_args", 2), some ("operation", 2), some ("applied", 3), some ("value_of", 3), some ("table_of", 3), some ("variables", 1), some ("many_in", 1), none, some ("reduced", 2), some ("true_at", 3), some ("share", 3), none, some ("solutions", 3), some ("broken", 3), some ("solve", 3), some ("search", 4), some ("solve_fault", 4), some ("tree_fault", 5), some ("can_go_on", 3), some ("stopped", 2), some ("all_values", 3), some ("_law_take", 2), some ("_law_algebra", 2), some ("_law_term", 3), some ("_law_value", 3), some ("_law_args", 2)], ["abs", "all", "enumerate", "int", "len", "list", "max", "range", "set", "sorted", "tuple", "zip"]⟩
def cf0 : Cfg := ⟨[], ["abs", "all", "enumerate", "int", "len", "list", "max", "range", "set", "sorted", "tuple", "zip"]⟩
/-- solutions -/
def c_solutions : S := (.seq (.asgO 3 (.lst .nil)) (.seq (.fr (.nm 4) .seq (.cons (.cl 3 (.cons (.idx (.rd (.sl 0)) (.int 1)) (.cons (.rd (.sl 2)) .nil))) .nil) (.seq (.ifs (.v (.bi .all (.cons (.comp [5, 6] (.tp (.cons (.nm 5) (.cons (.nm 6) .nil))) .seq (.cons (.rd (.sl 1)) .nil) .yes (.op .eq (.cl 6 (.cons (.rd (.sl 0)) (.cons (.rd (.sl 5)) (.cons (.rd (.sl 4)) .nil)))) (.cl 6 (.cons (.rd (.sl 0)) (.cons (.rd (.sl 6)) (.cons (.rd (.sl 4)) .nil)))))) .nil))) (.seq (.mut (.sl 3) .append (.rd (.sl 4))) .skip) .skip) .skip)) (.seq (.frz (.sl 3)) (.seq (.ret (.rd (.sl 3))) .skip))))
def n_solutions : List Str := ["algebra", "equations", "many", "found", "args", "left", "right"]
/-- broken -/
def c_broken : S := (.seq (.fr (.tp (.cons (.nm 3) (.cons (.nm 4) .nil))) .enum (.cons (.rd (.sl 1)) .nil) (.seq (.ifs (.nd (.v (.op .le (.cl 9 (.cons (.rd (.sl 4)) .nil)) (.bi .len (.cons (.rd (.sl 2)) .nil)))) (.v (.op .ne (.cl 6 (.cons (.rd (.sl 0)) (.cons (.idx (.rd (.sl 4)) (.int 0)) (.cons (.rd (.sl 2)) .nil)))) (.cl 6 (.cons (.rd (.sl 0)) (.cons (.idx (.rd (.sl 4)) (.int 1)) (.cons (.rd (.sl 2)) .nil))))))) (.seq (.ret (.rd (.sl 3))) .skip) .skip) .skip)) (.seq (.ret .non) .skip))
def n_broken : List Str := ["algebra", "equations", "args", "at", "row"]
/-- solve -/
def c_solve : S := (.seq (.asg 3 (.cl 18 (.cons (.rd (.sl 0)) (.cons (.rd (.sl 1)) (.cons (.rd (.sl 2)) (.cons (.tup .nil) .nil)))))) (.seq (.ret (.ite (.v (.op .eq (.idx (.rd (.sl 3)) (.int 0)) (.str "found"))) (.tup (.cons (.str "least") (.cons (.idx (.rd (.sl 3)) (.int 1)) .nil))) (.tup (.cons (.str "none") (.cons (.rd (.sl 3)) .nil))))) .skip))
def n_solve : List Str := ["algebra", "equations", "many", "tree"]
/-- search -/
def c_search : S := (.seq (.asg 4 (.cl 16 (.cons (.rd (.sl 0)) (.cons (.rd (.sl 1)) (.cons (.rd (.sl 3)) .nil))))) (.seq (.ifs (.v (.un .notN (.rd (.sl 4)))) (.seq (.ret (.tup (.cons (.str "broken") (.cons (.rd (.sl 4)) .nil)))) .skip) .skip) (.seq (.ifs (.v (.op .eq (.bi .len (.cons (.rd (.sl 3)) .nil)) (.rd (.sl 2)))) (.seq (.ret (.tup (.cons (.str "found") (.cons (.rd (.sl 3)) .nil)))) .skip) .skip) (.seq (.asgO 5 (.lst .nil)) (.seq (.fr (.nm 6) .rng (.cons (.idx (.rd (.sl 0)) (.int 1)) .nil) (.seq (.asg 7 (.cl 18 (.cons (.rd (.sl 0)) (.cons (.rd (.sl 1)) (.cons (.rd (.sl 2)) (.cons (.op .add (.rd (.sl 3)) (.tup (.cons (.rd (.sl 6)) .nil))) .nil)))))) (.seq (.ifs (.v (.op .eq (.idx (.rd (.sl 7)) (.int 0)) (.str "found"))) (.seq (.ret (.rd (.sl 7))) .skip) .skip) (.seq (.mut (.sl 5) .append (.rd (.sl 7))) .skip)))) (.seq (.frz (.sl 5)) (.seq (.ret (.tup (.cons (.str "split") (.cons (.rd (.sl 5)) .nil)))) .skip)))))))
def n_search : List Str := ["algebra", "equations", "many", "args", "at", "trees", "value", "tree"]
/-- solve_fault -/
def c_solve_fault : S := (.seq (.ifs (.v (.op .eq (.idx (.rd (.sl 3)) (.int 0)) (.str "none"))) (.seq (.ret (.cl 20 (.cons (.rd (.sl 0)) (.cons (.rd (.sl 1)) (.cons (.rd (.sl 2)) (.cons (.tup .nil) (.cons (.idx (.rd (.sl 3)) (.int 1)) .nil))))))) .skip) .skip) (.seq (.asg 4 (.idx (.rd (.sl 3)) (.int 1))) (.seq (.asg 5 (.idx (.rd (.sl 0)) (.int 1))) (.seq (.ifs (.or (.v (.op .ne (.bi .len (.cons (.rd (.sl 4)) .nil)) (.rd (.sl 2)))) (.nt (.v (.bi .all (.cons (.comp [8] (.nm 8) .seq (.cons (.rd (.sl 4)) .nil) .yes (.chain .le .lt (.int 0) (.rd (.sl 8)) (.rd (.sl 5)))) .nil))))) (.seq (.ret (.tup (.cons (.str "values") .nil))) .skip) .skip) (.seq (.asg 6 (.cl 16 (.cons (.rd (.sl 0)) (.cons (.rd (.sl 1)) (.cons (.rd (.sl 4)) .nil))))) (.seq (.ifs (.v (.un .notN (.rd (.sl 6)))) (.seq (.ret (.tup (.cons (.str "equation") (.cons (.rd (.sl 6)) .nil)))) .skip) .skip) (.seq (.fr (.nm 7) .seq (.cons (.cl 3 (.cons (.rd (.sl 5)) (.cons (.rd (.sl 2)) .nil))) .nil) (.seq (.ifs (.nd (.v (.op .lt (.rd (.sl 7)) (.rd (.sl 4)))) (.v (.un .isN (.cl 16 (.cons (.rd (.sl 0)) (.cons (.rd (.sl 1)) (.cons (.rd (.sl 7)) .nil))))))) (.seq (.ret (.tup (.cons (.str "least") .nil))) .skip) .skip) .skip)) (.seq (.ret .non) .skip))))))))
def n_solve_fault : List Str := ["algebra", "equations", "many", "told", "args", "size", "at", "other", "value"]
/-- tree_fault -/
def c_tree_fault : S := (.seq (.ifs (.v (.op .eq (.idx (.rd (.sl 4)) (.int 0)) (.str "broken"))) (.seq (.asg 7 (.idx (.rd (.sl 4)) (.int 1))) (.seq (.asg 8 (.nd (.chain .le .lt (.int 0) (.rd (.sl 7)) (.bi .len (.cons (.rd (.sl 1)) .nil))) (.op .le (.cl 9 (.cons (.idx (.rd (.sl 1)) (.rd (.sl 7))) .nil)) (.bi .len (.cons (.rd (.sl 3)) .nil))))) (.seq (.ifs (.nd (.v (.rd (.sl 8))) (.v (.op .ne (.cl 6 (.cons (.rd (.sl 0)) (.cons (.idx (.idx (.rd (.sl 1)) (.rd (.sl 7))) (.int 0)) (.cons (.rd (.sl 3)) .nil)))) (.cl 6 (.cons (.rd (.sl 0)) (.cons (.idx (.idx (.rd (.sl 1)) (.rd (.sl 7))) (.int 1)) (.cons (.rd (.sl 3)) .nil))))))) (.seq (.ret .non) .skip) .skip) (.seq (.ret (.tup (.cons (.str "broken") (.cons (.bi .list (.cons (.rd (.sl 3)) .nil)) .nil)))) .skip)))) .skip) (.seq (.ifs (.or (.v (.op .ge (.bi .len (.cons (.rd (.sl 3)) .nil)) (.rd (.sl 2)))) (.v (.op .ne (.bi .len (.cons (.idx (.rd (.sl 4)) (.int 1)) .nil)) (.idx (.rd (.sl 0)) (.int 1))))) (.seq (.ret (.tup (.cons (.str "split") (.cons (.bi .list (.cons (.rd (.sl 3)) .nil)) .nil)))) .skip) .skip) (.seq (.fr (.tp (.cons (.nm 5) (.cons (.nm 6) .nil))) .enum (.cons (.idx (.rd (.sl 4)) (.int 1)) .nil) (.seq (.asg 9 (.cl 20 (.cons (.rd (.sl 0)) (.cons (.rd (.sl 1)) (.cons (.rd (.sl 2)) (.cons (.op .add (.rd (.sl 3)) (.tup (.cons (.rd (.sl 5)) .nil))) (.cons (.rd (.sl 6)) .nil))))))) (.seq (.ifs (.v (.un .notN (.rd (.sl 9)))) (.seq (.ret (.rd (.sl 9))) .skip) .skip) .skip))) (.seq (.ret .non) .skip))))
def n_tree_fault : List Str := ["algebra", "equations", "many", "args", "tree", "value", "inner", "at", "fits", "fault"]
/-- can_go_on -/
def c_can_go_on : S := (.seq (.fr (.nm 3) .seq (.cons (.rd (.sl 2)) .nil) (.seq (.asgO 4 (.dnew false)) (.seq (.asg 5 (.bl true)) (.seq (.fr (.tp (.cons (.nm 6) (.cons (.nm 7) .nil))) .zip (.cons (.rd (.sl 1)) (.cons (.rd (.sl 3)) .nil)) (.seq (.asg 5 (.nd (.rd (.sl 5)) (.nd (.op .eq (.mt .get (.own (.sl 4)) (.cons (.rd (.sl 6)) (.cons (.rd (.sl 7)) .nil))) (.rd (.sl 7))) (.or (.op .ge (.rd (.sl 6)) (.bi .len (.cons (.rd (.sl 0)) .nil))) (.op .eq (.idx (.rd (.sl 0)) (.rd (.sl 6))) (.rd (.sl 7))))))) (.seq (.seti (.sl 4) (.rd (.sl 6)) (.rd (.sl 7))) .skip))) (.seq (.ifs (.v (.rd (.sl 5))) (.seq (.ret (.bl true)) .skip) .skip) .skip))))) (.seq (.ret (.bl false)) .skip))
def n_can_go_on : List Str := ["row", "scope", "rows", "one", "values", "good", "at", "value"]
/-- stopped -/
def c_stopped : S := (.seq (.fr (.tp (.cons (.nm 2) (.cons (.tp (.cons (.nm 3) (.cons (.nm 4) .nil))) .nil))) .enum (.cons (.rd (.sl 0)) .nil) (.seq (.ifs (.nt (.v (.cl 21 (.cons (.rd (.sl 1)) (.cons (.rd (.sl 3)) (.cons (.rd (.sl 4)) .nil)))))) (.seq (.ret (.rd (.sl 2))) .skip) .skip) .skip)) (.seq (.ret .non) .skip))
def n_stopped : List Str := ["limits", "row", "at", "scope", "rows"]
/-- all_values -/
def c_all_values : S := (.seq (.asg 3 (.ite (.v (.un .isN (.cl 22 (.cons (.rd (.sl 2)) (.cons (.lst .nil) .nil))))) (.lst (.cons (.lst .nil) .nil)) (.lst .nil))) (.seq (.fr (.nm 4) .rng (.cons (.rd (.sl 1)) .nil) (.seq (.asgO 5 (.lst .nil)) (.seq (.fr (.nm 6) .seq (.cons (.rd (.sl 3)) .nil) (.seq (.mut (.sl 5) .extend (.comp [7] (.nm 7) .rng (.cons (.rd (.sl 0)) .nil) (.v (.un .isN (.cl 22 (.cons (.rd (.sl 2)) (.cons (.op .add (.rd (.sl 6)) (.lst (.cons (.rd (.sl 7)) .nil))) .nil))))) (.op .add (.rd (.sl 6)) (.lst (.cons (.rd (.sl 7)) .nil))))) .skip)) (.seq (.frz (.sl 5)) (.seq (.asg 3 (.rd (.sl 5))) .skip))))) (.seq (.ret (.rd (.sl 3))) .skip)))
def n_all_values : List Str := ["size", "many", "limits", "found", "turn", "more", "row", "value"]
/-- _law_algebra -/
def c_law_algebra : S := (.seq (.ret (.tup (.cons (.str "algebra") (.cons (.rd (.sl 1)) (.cons (.lst (.cons (.tup (.cons (.str "m") (.cons (.int 2) (.cons (.bi .tuple (.cons (.comp [2] (.nm 2) .rng (.cons (.op .mul (.rd (.sl 1)) (.rd (.sl 1))) .nil) .yes (.cl 24 (.cons (.rd (.sl 0)) (.cons (.rd (.sl 1)) .nil)))) .nil)) .nil)))) .nil)) .nil))))) .skip)
def n_law_algebra : List Str := ["state", "size", "k"]
/-- _law_term -/
def c_law_term : S := (.seq (.ifs (.or (.v (.op .eq (.rd (.sl 2)) (.int 0))) (.v (.op .eq (.cl 24 (.cons (.rd (.sl 0)) (.cons (.int 3) .nil))) (.int 0)))) (.seq (.ret (.tup (.cons (.str "var") (.cons (.cl 24 (.cons (.rd (.sl 0)) (.cons (.rd (.sl 1)) .nil))) .nil)))) .skip) .skip) (.seq (.ret (.tup (.cons (.str "op") (.cons (.str "m") (.cons (.lst (.cons (.cl 26 (.cons (.rd (.sl 0)) (.cons (.rd (.sl 1)) (.cons (.op .sub (.rd (.sl 2)) (.int 1)) .nil)))) (.cons (.cl 26 (.cons (.rd (.sl 0)) (.cons (.rd (.sl 1)) (.cons (.op .sub (.rd (.sl 2)) (.int 1)) .nil)))) .nil))) .nil))))) .skip))
def n_law_term : List Str := ["state", "many", "depth"]
/-- _law_value -/
def c_law_value : S := (.seq (.ifs (.v (.op .eq (.idx (.rd (.sl 1)) (.int 0)) (.str "var"))) (.seq (.ret (.idx (.rd (.sl 2)) (.idx (.rd (.sl 1)) (.int 1)))) .skip) .skip) (.seq (.ret (.idx (.idx (.idx (.idx (.rd (.sl 0)) (.int 2)) (.int 0)) (.int 2)) (.op .add (.op .mul (.cl 27 (.cons (.rd (.sl 0)) (.cons (.idx (.idx (.rd (.sl 1)) (.int 2)) (.int 0)) (.cons (.rd (.sl 2)) .nil)))) (.idx (.rd (.sl 0)) (.int 1))) (.cl 27 (.cons (.rd (.sl 0)) (.cons (.idx (.idx (.rd (.sl 1)) (.int 2)) (.int 1)) (.cons (.rd (.sl 2)) .nil))))))) .skip))
def n_law_value : List Str := ["algebra", "term", "args"]
/-- _law_args -/
def c_law_args : S := (.seq (.asg 2 (.lst (.cons (.lst .nil) .nil))) (.seq (.fr (.nm 3) .rng (.cons (.rd (.sl 1)) .nil) (.seq (.asgO 4 (.lst .nil)) (.seq (.fr (.nm 5) .seq (.cons (.rd (.sl 2)) .nil) (.seq (.mut (.sl 4) .extend (.comp [6] (.nm 6) .rng (.cons (.rd (.sl 0)) .nil) .yes (.op .add (.rd (.sl 5)) (.lst (.cons (.rd (.sl 6)) .nil))))) .skip)) (.seq (.frz (.sl 4)) (.seq (.asg 2 (.rd (.sl 4))) .skip))))) (.seq (.ret (.rd (.sl 2))) .skip)))
def n_law_args : List Str := ["size", "many", "rows", "k", "more", "row", "value"]
/-- law -/
def c_law : S := (.seq (.asgT (.tp (.cons (.nm 2) (.cons (.nm 3) .nil))) (.tup (.cons (.cl 25 (.cons (.rd (.sl 1)) (.cons (.op .add (.int 1) (.cl 24 (.cons (.rd (.sl 1)) (.cons (.int 3) .nil)))) .nil))) (.cons (.op .add (.int 1) (.cl 24 (.cons (.rd (.sl 1)) (.cons (.int 3) .nil)))) .nil)))) (.seq (.asg 4 (.comp [16] (.nm 16) .rng (.cons (.cl 24 (.cons (.rd (.sl 1)) (.cons (.int 4) .nil))) .nil) .yes (.tup (.cons (.cl 26 (.cons (.rd (.sl 1)) (.cons (.rd (.sl 3)) (.cons (.int 2) .nil)))) (.cons (.cl 26 (.cons (.rd (.sl 1)) (.cons (.rd (.sl 3)) (.cons (.int 2) .nil)))) .nil))))) (.seq (.asg 5 (.cl 28 (.cons (.idx (.rd (.sl 2)) (.int 1)) (.cons (.rd (.sl 3)) .nil)))) (.seq (.asg 6 (.rd (.sl 5))) (.seq (.fr (.tp (.cons (.nm 7) (.cons (.nm 8) .nil))) .seq (.cons (.rd (.sl 4)) .nil) (.seq (.asg 11 (.comp [17] (.nm 17) .seq (.cons (.cl 15 (.cons (.rd (.sl 2)) (.cons (.lst (.cons (.tup (.cons (.rd (.sl 7)) (.cons (.rd (.sl 8)) .nil))) .nil)) (.cons (.rd (.sl 3)) .nil)))) .nil) .yes (.bi .list (.cons (.rd (.sl 17)) .nil)))) (.seq (.ifs (.v (.op .ne (.rd (.sl 11)) (.comp [17] (.nm 17) .seq (.cons (.rd (.sl 5)) .nil) (.v (.op .eq (.cl 27 (.cons (.rd (.sl 2)) (.cons (.rd (.sl 7)) (.cons (.rd (.sl 17)) .nil)))) (.cl 27 (.cons (.rd (.sl 2)) (.cons (.rd (.sl 8)) (.cons (.rd (.sl 17)) .nil)))))) (.rd (.sl 17))))) (.seq (.ret (.bl false)) .skip) .skip) (.seq (.asgT (.tp (.cons (.nm 12) (.cons (.nm 13) .nil))) (.cl 13 (.cons (.rd (.sl 2)) (.cons (.tup (.cons (.rd (.sl 7)) (.cons (.rd (.sl 8)) .nil))) (.cons (.rd (.sl 3)) .nil))))) (.seq (.ifs (.v (.op .ne (.op .mul (.rd (.sl 12)) (.bi .len (.cons (.rd (.sl 5)) .nil))) (.op .mul (.rd (.sl 13)) (.bi .len (.cons (.rd (.sl 11)) .nil))))) (.seq (.ret (.bl false)) .skip) .skip) (.seq (.asg 6 (.comp [17] (.nm 17) .seq (.cons (.rd (.sl 6)) .nil) (.v (.op .isin (.rd (.sl 17)) (.rd (.sl 11)))) (.rd (.sl 17)))) (.seq (.asg 14 (.lst (.cons (.cl 7 (.cons (.rd (.sl 2)) (.cons (.rd (.sl 7)) (.cons (.rd (.sl 3)) .nil)))) (.cons (.cl 7 (.cons (.rd (.sl 2)) (.cons (.rd (.sl 8)) (.cons (.rd (.sl 3)) .nil)))) .nil)))) (.seq (.ifs (.v (.op .ne (.comp [16] (.nm 16) .rng (.cons (.bi .len (.cons (.rd (.sl 5)) .nil)) .nil) (.v (.op .eq (.idx (.idx (.rd (.sl 14)) (.int 0)) (.rd (.sl 16))) (.idx (.idx (.rd (.sl 14)) (.int 1)) (.rd (.sl 16))))) (.idx (.rd (.sl 5)) (.rd (.sl 16)))) (.rd (.sl 11)))) (.seq (.ret (.bl false)) .skip) .skip) .skip)))))))) (.seq (.ifs (.v (.op .ne (.comp [17] (.nm 17) .seq (.cons (.cl 15 (.cons (.rd (.sl 2)) (.cons (.rd (.sl 4)) (.cons (.rd (.sl 3)) .nil)))) .nil) .yes (.bi .list (.cons (.rd (.sl 17)) .nil))) (.rd (.sl 6)))) (.seq (.ret (.bl false)) .skip) .skip) (.seq (.asg 9 (.cl 17 (.cons (.rd (.sl 2)) (.cons (.rd (.sl 4)) (.cons (.rd (.sl 3)) .nil))))) (.seq (.ifs (.or (.v (.un .notN (.cl 19 (.cons (.rd (.sl 2)) (.cons (.rd (.sl 4)) (.cons (.rd (.sl 3)) (.cons (.rd (.sl 9)) .nil))))))) (.v (.op .ne (.op .eq (.idx (.rd (.sl 9)) (.int 0)) (.str "least")) (.op .gt (.bi .len (.cons (.rd (.sl 6)) .nil)) (.int 0))))) (.seq (.ret (.bl false)) .skip) .skip) (.seq (.ifs (.nd (.v (.op .eq (.idx (.rd (.sl 9)) (.int 0)) (.str "least"))) (.v (.op .ne (.bi .list (.cons (.idx (.rd (.sl 9)) (.int 1)) .nil)) (.idx (.rd (.sl 6)) (.int 0))))) (.seq (.ret (.bl false)) .skip) .skip) (.seq (.asgO 10 (.lst .nil)) (.seq (.fr (.tp (.cons (.nm 7) (.cons (.nm 8) .nil))) .seq (.cons (.rd (.sl 4)) .nil) (.seq (.asg 15 (.comp [17] (.nm 17) .seq (.cons (.rd (.sl 5)) .nil) (.v (.op .eq (.cl 27 (.cons (.rd (.sl 2)) (.cons (.rd (.sl 7)) (.cons (.rd (.sl 17)) .nil)))) (.cl 27 (.cons (.rd (.sl 2)) (.cons (.rd (.sl 8)) (.cons (.rd (.sl 17)) .nil)))))) (.bi .tuple (.cons (.rd (.sl 17)) .nil)))) (.seq (.mut (.sl 10) .append (.tup (.cons (.bi .tuprng (.cons (.rd (.sl 3)) .nil)) (.cons (.rd (.sl 15)) .nil)))) .skip))) (.seq (.frz (.sl 10)) (.seq (.ret (.op .eq (.cl 23 (.cons (.idx (.rd (.sl 2)) (.int 1)) (.cons (.rd (.sl 3)) (.cons (.rd (.sl 10)) .nil)))) (.rd (.sl 6)))) .skip)))))))))))))
def n_law : List Str := ["script", "state", "algebra", "many", "equations", "rows", "good", "left", "right", "told", "limits", "mine", "top", "under", "tables", "able", "k", "args"]
def fnsT : List FnD := comF ++ [⟨3, 7, c_solutions⟩, ⟨3, 5, c_broken⟩, ⟨3, 4, c_solve⟩, ⟨4, 8, c_search⟩, ⟨4, 9, c_solve_fault⟩, ⟨5, 10, c_tree_fault⟩, ⟨3, 8, c_can_go_on⟩, ⟨2, 5, c_stopped⟩, ⟨3, 8, c_all_values⟩, ⟨2, 6, .skip⟩, ⟨2, 3, c_law_algebra⟩, ⟨3, 3, c_law_term⟩, ⟨3, 3, c_law_value⟩, ⟨2, 7, c_law_args⟩]
def ownT (i : Nat) : Option (List PyData → (PyData → Prop) → Prop) := if i = 24 then some takeG else none
def GT : Prg := ⟨fnsT, ownT⟩
theorem k_power : chkB n_power cfT (defScope (topS 1)) c_power (defBody (topS 1)) = true := by decide +kernel
theorem s_power : FnScope n_power ["size", "many"] (defScope (topS 1)) := ⟨rfl, rfl, rfl, by decide +kernel, rfl, by decide +kernel, by decide +kernel⟩
theorem k_place_of : chkB n_place_of cfT (defScope (topS 2)) c_place_of (defBody (topS 2)) = true := by decide +kernel
theorem s_place_of : FnScope n_place_of ["size", "args"] (defScope (topS 2)) := ⟨rfl, rfl, rfl, by decide +kernel, rfl, by decide +kernel, by decide +kernel⟩
theorem k_args_at : chkB n_args_at cfT (defScope (topS 3)) c_args_at (defBody (topS 3)) = true := by decide +kernel
theorem s_args_at : FnScope n_args_at ["size", "arity", "place"] (defScope (topS 3)) := ⟨rfl, rfl, rfl, by decide +kernel, rfl, by decide +kernel, by decide +kernel⟩
theorem k_all_args : chkB n_all_args cfT (defScope (topS 4)) c_all_args (defBody (topS 4)) = true := by decide +kernel
theorem s_all_args : FnScope n_all_args ["size", "arity"] (defScope (topS 4)) := ⟨rfl, rfl, rfl, by decide +kernel, rfl, by decide +kernel, by decide +kernel⟩
theorem k_operation : chkB n_operation cfT (defScope (topS 5)) c_operation (defBody (topS 5)) = true := by decide +kernel
theorem s_operation : FnScope n_operation ["algebra", "name"] (defScope (topS 5)) := ⟨rfl, rfl, rfl, by decide +kernel, rfl, by decide +kernel, by decide +kernel⟩
theorem k_applied : chkB n_applied cfT (defScope (topS 6)) c_applied (defBody (topS 6)) = true := by decide +kernel
theorem s_applied : FnScope n_applied ["algebra", "name", "args"] (defScope (topS 6)) := ⟨rfl, rfl, rfl, by decide +kernel, rfl, by decide +kernel, by decide +kernel⟩
theorem k_value_of : chkB n_value_of cfT (defScope (topS 8)) c_value_of (defBody (topS 8)) = true := by decide +kernel
theorem s_value_of : FnScope n_value_of ["algebra", "term", "args"] (defScope (topS 8)) := ⟨rfl, rfl, rfl, by decide +kernel, rfl, by decide +kernel, by decide +kernel⟩
theorem k_table_of : chkB n_table_of cfT (defScope (topS 9)) c_table_of (defBody (topS 9)) = true := by decide +kernel
theorem s_table_of : FnScope n_table_of ["algebra", "term", "many"] (defScope (topS 9)) := ⟨rfl, rfl, rfl, by decide +kernel, rfl, by decide +kernel, by decide +kernel⟩
theorem k_variables : chkB n_variables cfT (defScope (topS 10)) c_variables (defBody (topS 10)) = true := by decide +kernel
theorem s_variables : FnScope n_variables ["term"] (defScope (topS 10)) := ⟨rfl, rfl, rfl, by decide +kernel, rfl, by decide +kernel, by decide +kernel⟩
theorem k_many_in : chkB n_many_in cfT (defScope (topS 12)) c_many_in (defBody (topS 12)) = true := by decide +kernel
theorem s_many_in : FnScope n_many_in ["terms"] (defScope (topS 12)) := ⟨rfl, rfl, rfl, by decide +kernel, rfl, by decide +kernel, by decide +kernel⟩
theorem k_solutions : chkB n_solutions cfT (defScope (topS 13)) c_solutions (defBody (topS 13)) = true := by decide +kernel
theorem s_solutions : FnScope n_solutions ["algebra", "equations", "many"] (defScope (topS 13)) := ⟨rfl, rfl, rfl, by decide +kernel, rfl, by decide +kernel, by decide +kernel⟩
theorem k_broken : chkB n_broken cfT (defScope (topS 14)) c_broken (defBody (topS 14)) = true := by decide +kernel
theorem s_broken : FnScope n_broken ["algebra", "equations", "args"] (defScope (topS 14)) := ⟨rfl, rfl, rfl, by decide +kernel, rfl, by decide +kernel, by decide +kernel⟩
theorem k_solve : chkB n_solve cfT (defScope (topS 15)) c_solve (defBody (topS 15)) = true := by decide +kernel
theorem s_solve : FnScope n_solve ["algebra", "equations", "many"] (defScope (topS 15)) := ⟨rfl, rfl, rfl, by decide +kernel, rfl, by decide +kernel, by decide +kernel⟩
theorem k_search : chkB n_search cfT (defScope (topS 16)) c_search (defBody (topS 16)) = true := by decide +kernel
theorem s_search : FnScope n_search ["algebra", "equations", "many", "args"] (defScope (topS 16)) := ⟨rfl, rfl, rfl, by decide +kernel, rfl, by decide +kernel, by decide +kernel⟩
theorem k_solve_fault : chkB n_solve_fault cfT (defScope (topS 17)) c_solve_fault (defBody (topS 17)) = true := by decide +kernel
theorem s_solve_fault : FnScope n_solve_fault ["algebra", "equations", "many", "told"] (defScope (topS 17)) := ⟨rfl, rfl, rfl, by decide +kernel, rfl, by decide +kernel, by decide +kernel⟩
theorem k_tree_fault : chkB n_tree_fault cfT (defScope (topS 18)) c_tree_fault (defBody (topS 18)) = true := by decide +kernel
theorem s_tree_fault : FnScope n_tree_fault ["algebra", "equations", "many", "args", "tree"] (defScope (topS 18)) := ⟨rfl, rfl, rfl, by decide +kernel, rfl, by decide +kernel, by decide +kernel⟩
theorem k_can_go_on : chkB n_can_go_on cfT (defScope (topS 20)) c_can_go_on (defBody (topS 20)) = true := by decide +kernel
theorem s_can_go_on : FnScope n_can_go_on ["row", "scope", "rows"] (defScope (topS 20)) := ⟨rfl, rfl, rfl, by decide +kernel, rfl, by decide +kernel, by decide +kernel⟩
theorem k_stopped : chkB n_stopped cfT (defScope (topS 21)) c_stopped (defBody (topS 21)) = true := by decide +kernel
theorem s_stopped : FnScope n_stopped ["limits", "row"] (defScope (topS 21)) := ⟨rfl, rfl, rfl, by decide +kernel, rfl, by decide +kernel, by decide +kernel⟩
theorem k_all_values : chkB n_all_values cfT (defScope (topS 22)) c_all_values (defBody (topS 22)) = true := by decide +kernel
theorem s_all_values : FnScope n_all_values ["size", "many", "limits"] (defScope (topS 22)) := ⟨rfl, rfl, rfl, by decide +kernel, rfl, by decide +kernel, by decide +kernel⟩
theorem k_reduced : chkB n_reduced cfT (defScope (topS 24)) c_reduced (defBody (topS 24)) = true := by decide +kernel
theorem s_reduced : FnScope n_reduced ["top", "under"] (defScope (topS 24)) := ⟨rfl, rfl, rfl, by decide +kernel, rfl, by decide +kernel, by decide +kernel⟩
theorem k_true_at : chkB n_true_at cfT (defScope (topS 25)) c_true_at (defBody (topS 25)) = true := by decide +kernel
theorem s_true_at : FnScope n_true_at ["algebra", "rule", "args"] (defScope (topS 25)) := ⟨rfl, rfl, rfl, by decide +kernel, rfl, by decide +kernel, by decide +kernel⟩
theorem k_share : chkB n_share cfT (defScope (topS 26)) c_share (defBody (topS 26)) = true := by decide +kernel
theorem s_share : FnScope n_share ["algebra", "rule", "many"] (defScope (topS 26)) := ⟨rfl, rfl, rfl, by decide +kernel, rfl, by decide +kernel, by decide +kernel⟩
theorem k_law_algebra : chkB n_law_algebra cfT (defScope (topS 30)) c_law_algebra (defBody (topS 30)) = true := by decide +kernel
theorem s_law_algebra : FnScope n_law_algebra ["state", "size"] (defScope (topS 30)) := ⟨rfl, rfl, rfl, by decide +kernel, rfl, by decide +kernel, by decide +kernel⟩
theorem k_law_term : chkB n_law_term cfT (defScope (topS 31)) c_law_term (defBody (topS 31)) = true := by decide +kernel
theorem s_law_term : FnScope n_law_term ["state", "many", "depth"] (defScope (topS 31)) := ⟨rfl, rfl, rfl, by decide +kernel, rfl, by decide +kernel, by decide +kernel⟩
theorem k_law_value : chkB n_law_value cfT (defScope (topS 32)) c_law_value (defBody (topS 32)) = true := by decide +kernel
theorem s_law_value : FnScope n_law_value ["algebra", "term", "args"] (defScope (topS 32)) := ⟨rfl, rfl, rfl, by decide +kernel, rfl, by decide +kernel, by decide +kernel⟩
theorem k_law_args : chkB n_law_args cfT (defScope (topS 33)) c_law_args (defBody (topS 33)) = true := by decide +kernel
theorem s_law_args : FnScope n_law_args ["size", "many"] (defScope (topS 33)) := ⟨rfl, rfl, rfl, by decide +kernel, rfl, by decide +kernel, by decide +kernel⟩
theorem k_law : chkB n_law cfT (defScope (topS 34)) c_law ((defBody (topS 34)).drop 1) = true := by decide +kernel
theorem s_law : FnScope n_law ["script"] (defScope (topS 34)) := ⟨rfl, rfl, rfl, by decide +kernel, rfl, by decide +kernel, by decide +kernel⟩
def n_state : List Str := ["script", "cells", "cell"]
def n_take : List Str := ["state", "most", "cells", "at", "cell", "mixed"]
theorem s_state : FnScope n_state ["script"] (defScope (topS 28)) := ⟨rfl, rfl, rfl, by decide +kernel, rfl, by decide +kernel, by decide +kernel⟩
theorem s_take : FnScope n_take ["state", "most"] (defScope (topS 29)) := ⟨rfl, rfl, rfl, by decide +kernel, rfl, by decide +kernel, by decide +kernel⟩
theorem k_state : chkB n_state cf0 (defScope (topS 28)) restS ((defBody (topS 28)).drop 1) = true := by decide +kernel
section
variable {P : Program} {w : World} {K : PySem.W.Frag} {mg : Str → Option Value} {base : Heap} {f : Addr} {cdv : Value} {A : Around} {outer : List PySem.Env} {s : Shared} {H : Hp} {E : XK}
theorem take_txt (ml : mg "len" = none) (mi : mg "int" = none) : PSs (cxOf CX0 P w K mg base n_take "_law_take" (defScope (topS 29)) f cdv A outer s H E).nox (defBody (topS 29)) (tTake K) :=
  have nd : n_take.Nodup := by decide +kernel
  pss_cons (ps_set (i := 2) nd rfl (.inl rfl) (pe_ix ix_list (pv 0) pe_int (fun _ _ => rfl)))
  (pss_cons (ps_set (i := 3) nd rfl (.inl rfl) (pe_op op_mod (pe_ix ix_list (pv 0) pe_int (fun _ _ => rfl)) (pe_callB call_len_seq (by rfl) ml PySem.boot_len (pa_cons (pv 2) pa_nil))))
  (pss_cons (ps_set (i := 4) nd rfl (.inl rfl) (pe_ix ix_list (pv 2) (pv 3) (fun _ _ => rfl)))
  (pss_cons (ps_if (pt_cmpR op_ge (pv 4) pe_int (nomark _)) (pss_cons (ps_asg (pe_op op_fdiv (pv 4) (pv 1)) (pg_sub (pv 2) (pv 3) set_list)) (pss_one (ps_ret (pe_op op_mod (pv 4) (pv 1))))) pss_nil)
  (pss_cons (ps_asg (pe_op op_add (pe_ix ix_list (pv 0) pe_int (fun _ _ => rfl)) pe_int) (pg_sub (pv 0) pe_int set_list))
  (pss_cons (ps_set (i := 5) nd rfl (.inl rfl) (pe_op op_mod (pe_callTy call_int1 (by rfl) mi (by decide +kernel) (pa_cons (pe_op op_add (pe_op op_mul (pv 4) pe_int) (pe_op op_mul (pe_ix ix_list (pv 0) pe_int (fun _ _ => rfl)) pe_int)) pa_nil)) pe_int))
  (pss_cons (ps_set (i := 5) nd rfl (.inl rfl) (pe_op op_mod (pe_callTy call_int1 (by rfl) mi (by decide +kernel) (pa_cons (pe_op op_add (pe_op op_mul (pv 5) pe_int) (pe_op op_mul (pe_ix ix_list (pv 0) pe_int (fun _ _ => rfl)) pe_int)) pa_nil)) pe_int))
  (pss_one (ps_ret (pe_op op_mod (pe_op op_fdiv (pv 5) pe_int) (pv 1))))))))))
theorem state_txt (ma : mg "abs" = none) : PS (cxOf CX0 P w K mg base n_state "_law_state" (defScope (topS 28)) f cdv A outer s H E).nox ((defBody (topS 28)).getD 0 (.Pass ⟨0, 0, 0, 0⟩)) (tCells K) :=
  have nd : n_state.Nodup := by decide +kernel
  ps_setLc (own := [("cell", 2)]) rfl nd (i := 1) rfl rfl (sw_true rfl rfl rfl rfl) (pi_list (pe_slice sl_list (pv 0) po_none (po_some pe_int))) (blkOk_by (show blkC n_state (defScope (topS 28)) _ [("cell", 2)] = true by decide +kernel))
    (fun _ _ _ _ _ => pg_name nd (i := 2) rfl (.inl rfl)) (fun _ _ _ _ _ => pts_nil) (fun _ _ _ _ _ => pe_callB call_abs (by rfl) ma (by decide +kernel) (pa_cons (pv 2) pa_nil))
end
theorem GTm : ∀ f g, GT.own f = some g → ∀ ds Q Q', (∀ d, Q d → Q' d) → g ds Q → g ds Q' := by
  intro f g h ds Q Q' hq hg
  simp only [GT, ownT] at h
  split at h
  · cases h
    obtain ⟨m, e, h1, h2, h3⟩ := hg
    exact ⟨m, e, h1, h2, fun r a b => hq _ (h3 r a b)⟩
  · cases h
abbrev KK : Nat := 60
section
variable {w : World} {K : PySem.W.Frag} {h : Heap} {mg : Str → Option Value}
def Lk (K : PySem.W.Frag) (x : String) (i : Nat) : Prop := ∃ (f : Addr) (oc : Value) (od an : Option Addr) (sl : Array (Option Value)) (kV dc pm cd ct : Value),
  PySem.W.nsIn K mainGlobals (Str.ofString x) = some (some (.ref f)) ∧ K.lookup f = some ⟨oc, od, .func (PySem.W.fnOf (Str.ofString x) (Str.ofString x) (defArgs (topS i)) (defBody (topS i)) (defScope (topS i)) .none kV dc pm an cd ct), sl⟩ ∧ PySem.W.codeIn K cd (Str.ofString x) = true ∧ PySem.W.keepIn K (.ref f) = true
theorem Lk.get {x : String} {i : Nat} (X : K.In h) (G : h.Ns mainGlobals mg) (L : Lk K x i) : ∃ f fd, mg (Str.ofString x) = some (.ref f) ∧ Fun K (Str.ofString x) (Str.ofString x) (topS i) f fd := by
  obtain ⟨f, oc, od, an, sl, kV, dc, pm, cd, ct, a, l, c, k⟩ := L
  exact ⟨f, _, PySem.W.mg_of X G a, fun_mk l c k⟩
theorem Lk.mk {K : PySem.W.Frag} {x : String} {i : Nat} {f : Addr} {oc : Value} {od an : Option Addr} {sl : Array (Option Value)} {kV dc pm cd ct : Value} (a : PySem.W.nsIn K mainGlobals (Str.ofString x) = some (some (.ref f)))
  (l : K.lookup f = some ⟨oc, od, .func (PySem.W.fnOf (Str.ofString x) (Str.ofString x) (defArgs (topS i)) (defBody (topS i)) (defScope (topS i)) .none kV dc pm an cd ct), sl⟩) (c : PySem.W.codeIn K cd (Str.ofString x) = true) (k : PySem.W.keepIn K (.ref f) = true) : Lk K x i :=
  ⟨f, oc, od, an, sl, kV, dc, pm, cd, ct, a, l, c, k⟩
theorem all_mk (mathT : lawG GT KK n_law.length c_law) (X : K.In h) (G : h.Ns mainGlobals mg) {fa : Addr} (hfa : mg "law" = some (.ref fa)) (l0 : Lk K "power" 1) (l1 : Lk K "place_of" 2) (l2 : Lk K "args_at" 3) (l3 : Lk K "all_args" 4) (l4 : Lk K "operation" 5) (l5 : Lk K "applied" 6) (l6 : Lk K "value_of" 8) (l7 : Lk K "table_of" 9) (l8 : Lk K "variables" 10) (l9 : Lk K "many_in" 12) (l10 : Lk K "solutions" 13) (l11 : Lk K "broken" 14) (l12 : Lk K "solve" 15) (l13 : Lk K "search" 16) (l14 : Lk K "solve_fault" 17) (l15 : Lk K "tree_fault" 18) (l16 : Lk K "can_go_on" 20) (l17 : Lk K "stopped" 21) (l18 : Lk K "all_values" 22) (l19 : Lk K "reduced" 24) (l20 : Lk K "true_at" 25) (l21 : Lk K "share" 26) (l22 : Lk K "_law_state" 28) (l23 : Lk K "_law_take" 29) (l24 : Lk K "_law_algebra" 30) (l25 : Lk K "_law_term" 31) (l26 : Lk K "_law_value" 32) (l27 : Lk K "_law_args" 33) (l28 : Lk K "law" 34) (z0 : PySem.W.nsIn K mainGlobals (Str.ofString "abs") = some none) (z1 : PySem.W.nsIn K mainGlobals (Str.ofString "all") = some none) (z2 : PySem.W.nsIn K mainGlobals (Str.ofString "enumerate") = some none) (z3 : PySem.W.nsIn K mainGlobals (Str.ofString "int") = some none) (z4 : PySem.W.nsIn K mainGlobals (Str.ofString "len") = some none) (z5 : PySem.W.nsIn K mainGlobals (Str.ofString "list") = some none) (z6 : PySem.W.nsIn K mainGlobals (Str.ofString "max") = some none) (z7 : PySem.W.nsIn K mainGlobals (Str.ofString "range") = some none) (z8 : PySem.W.nsIn K mainGlobals (Str.ofString "set") = some none) (z9 : PySem.W.nsIn K mainGlobals (Str.ofString "sorted") = some none) (z10 : PySem.W.nsIn K mainGlobals (Str.ofString "tuple") = some none) (z11 : PySem.W.nsIn K mainGlobals (Str.ofString "zip") = some none) :
    ∃ fd : FuncData, (∀ (s : Shared) (v : Value), BindsTo s fd ⟨[v], []⟩ [("script", v)]) ∧ ∀ base : Heap, K.In base → base.Ns mainGlobals mg → FnOk PySem.Challenge.pw_tablewright_k52_solutions_and_shares w K mg base CX0 (KK + 1) fa fd ["script"] (spLaw K) := by
  obtain ⟨f0, d0, m0, F0⟩ := l0.get X G
  have b0 := F0.binds (ps := ["size", "many"]) fun _ _ _ _ _ _ us hl => match us, hl with | [_, _], _ => rfl
  obtain ⟨f1, d1, m1, F1⟩ := l1.get X G
  have b1 := F1.binds (ps := ["size", "args"]) fun _ _ _ _ _ _ us hl => match us, hl with | [_, _], _ => rfl
  obtain ⟨f2, d2, m2, F2⟩ := l2.get X G
  have b2 := F2.binds (ps := ["size", "arity", "place"]) fun _ _ _ _ _ _ us hl => match us, hl with | [_, _, _], _ => rfl
  obtain ⟨f3, d3, m3, F3⟩ := l3.get X G
  have b3 := F3.binds (ps := ["size", "arity"]) fun _ _ _ _ _ _ us hl => match us, hl with | [_, _], _ => rfl
  obtain ⟨f4, d4, m4, F4⟩ := l4.get X G
  have b4 := F4.binds (ps := ["algebra", "name"]) fun _ _ _ _ _ _ us hl => match us, hl with | [_, _], _ => rfl
  obtain ⟨f5, d5, m5, F5⟩ := l5.get X G
  have b5 := F5.binds (ps := ["algebra", "name", "args"]) fun _ _ _ _ _ _ us hl => match us, hl with | [_, _, _], _ => rfl
  obtain ⟨f6, d6, m6, F6⟩ := l6.get X G
  have b6 := F6.binds (ps := ["algebra", "term", "args"]) fun _ _ _ _ _ _ us hl => match us, hl with | [_, _, _], _ => rfl
  obtain ⟨f7, d7, m7, F7⟩ := l7.get X G
  have b7 := F7.binds (ps := ["algebra", "term", "many"]) fun _ _ _ _ _ _ us hl => match us, hl with | [_, _, _], _ => rfl
  obtain ⟨f8, d8, m8, F8⟩ := l8.get X G
  have b8 := F8.binds (ps := ["term"]) fun _ _ _ _ _ _ us hl => match us, hl with | [_], _ => rfl
  obtain ⟨f9, d9, m9, F9⟩ := l9.get X G
  have b9 := F9.binds (ps := ["terms"]) fun _ _ _ _ _ _ us hl => match us, hl with | [_], _ => rfl
  obtain ⟨f10, d10, m10, F10⟩ := l10.get X G
  have b10 := F10.binds (ps := ["algebra", "equations", "many"]) fun _ _ _ _ _ _ us hl => match us, hl with | [_, _, _], _ => rfl
  obtain ⟨f11, d11, m11, F11⟩ := l11.get X G
  have b11 := F11.binds (ps := ["algebra", "equations", "args"]) fun _ _ _ _ _ _ us hl => match us, hl with | [_, _, _], _ => rfl
  obtain ⟨f12, d12, m12, F12⟩ := l12.get X G
  have b12 := F12.binds (ps := ["algebra", "equations", "many"]) fun _ _ _ _ _ _ us hl => match us, hl with | [_, _, _], _ => rfl
  obtain ⟨f13, d13, m13, F13⟩ := l13.get X G
  have b13 := F13.binds (ps := ["algebra", "equations", "many", "args"]) fun _ _ _ _ _ _ us hl => match us, hl with | [_, _, _, _], _ => rfl
  obtain ⟨f14, d14, m14, F14⟩ := l14.get X G
  have b14 := F14.binds (ps := ["algebra", "equations", "many", "told"]) fun _ _ _ _ _ _ us hl => match us, hl with | [_, _, _, _], _ => rfl
  obtain ⟨f15, d15, m15, F15⟩ := l15.get X G
  have b15 := F15.binds (ps := ["algebra", "equations", "many", "args", "tree"]) fun _ _ _ _ _ _ us hl => match us, hl with | [_, _, _, _, _], _ => rfl
  obtain ⟨f16, d16, m16, F16⟩ := l16.get X G
  have b16 := F16.binds (ps := ["row", "scope", "rows"]) fun _ _ _ _ _ _ us hl => match us, hl with | [_, _, _], _ => rfl
  obtain ⟨f17, d17, m17, F17⟩ := l17.get X G
  have b17 := F17.binds (ps := ["limits", "row"]) fun _ _ _ _ _ _ us hl => match us, hl with | [_, _], _ => rfl
  obtain ⟨f18, d18, m18, F18⟩ := l18.get X G
  have b18 := F18.binds (ps := ["size", "many", "limits"]) fun _ _ _ _ _ _ us hl => match us, hl with | [_, _, _], _ => rfl
  obtain ⟨f19, d19, m19, F19⟩ := l19.get X G
  have b19 := F19.binds (ps := ["top", "under"]) fun _ _ _ _ _ _ us hl => match us, hl with | [_, _], _ => rfl
  obtain ⟨f20, d20, m20, F20⟩ := l20.get X G
  have b20 := F20.binds (ps := ["algebra", "rule", "args"]) fun _ _ _ _ _ _ us hl => match us, hl with | [_, _, _], _ => rfl
  obtain ⟨f21, d21, m21, F21⟩ := l21.get X G
  have b21 := F21.binds (ps := ["algebra", "rule", "many"]) fun _ _ _ _ _ _ us hl => match us, hl with | [_, _, _], _ => rfl
  obtain ⟨f22, d22, m22, F22⟩ := l22.get X G
  have b22 := F22.binds (ps := ["script"]) fun _ _ _ _ _ _ us hl => match us, hl with | [_], _ => rfl
  obtain ⟨f23, d23, m23, F23⟩ := l23.get X G
  have b23 := F23.binds (ps := ["state", "most"]) fun _ _ _ _ _ _ us hl => match us, hl with | [_, _], _ => rfl
  obtain ⟨f24, d24, m24, F24⟩ := l24.get X G
  have b24 := F24.binds (ps := ["state", "size"]) fun _ _ _ _ _ _ us hl => match us, hl with | [_, _], _ => rfl
  obtain ⟨f25, d25, m25, F25⟩ := l25.get X G
  have b25 := F25.binds (ps := ["state", "many", "depth"]) fun _ _ _ _ _ _ us hl => match us, hl with | [_, _, _], _ => rfl
  obtain ⟨f26, d26, m26, F26⟩ := l26.get X G
  have b26 := F26.binds (ps := ["algebra", "term", "args"]) fun _ _ _ _ _ _ us hl => match us, hl with | [_, _, _], _ => rfl
  obtain ⟨f27, d27, m27, F27⟩ := l27.get X G
  have b27 := F27.binds (ps := ["size", "many"]) fun _ _ _ _ _ _ us hl => match us, hl with | [_, _], _ => rfl
  obtain ⟨fl, oc, od, an, sl, kV, dc, pm, cd, ct, aL, lL, cL, kL⟩ := l28
  have e := hfa.symm.trans (PySem.W.mg_of X G aL)
  cases e
  have y0 := PySem.W.mg_none_of X G z0
  have y1 := PySem.W.mg_none_of X G z1
  have y2 := PySem.W.mg_none_of X G z2
  have y3 := PySem.W.mg_none_of X G z3
  have y4 := PySem.W.mg_none_of X G z4
  have y5 := PySem.W.mg_none_of X G z5
  have y6 := PySem.W.mg_none_of X G z6
  have y7 := PySem.W.mg_none_of X G z7
  have y8 := PySem.W.mg_none_of X G z8
  have y9 := PySem.W.mg_none_of X G z9
  have y10 := PySem.W.mg_none_of X G z10
  have y11 := PySem.W.mg_none_of X G z11
  have hbl : ∀ x, x ∈ cfT.bls → mg x = none := fun x hx => by
    have hx : x ∈ [("abs" : Str), ("all" : Str), ("enumerate" : Str), ("int" : Str), ("len" : Str), ("list" : Str), ("max" : Str), ("range" : Str), ("set" : Str), ("sorted" : Str), ("tuple" : Str), ("zip" : Str)] := hx
    simp only [List.mem_cons, List.not_mem_nil, or_false] at hx
    rcases hx with rfl | rfl | rfl | rfl | rfl | rfl | rfl | rfl | rfl | rfl | rfl | rfl
    · exact y0
    · exact y1
    · exact y2
    · exact y3
    · exact y4
    · exact y5
    · exact y6
    · exact y7
    · exact y8
    · exact y9
    · exact y10
    · exact y11
  refine ⟨PySem.W.fnOf "law" "law" (defArgs (topS 34)) (defBody (topS 34)) (defScope (topS 34)) .none kV dc pm an cd ct, fun s v => .of_eq rfl, fun base _ _ => ?_⟩
  have hf : ∀ i x n, cfT.fns[i]? = some (some (x, n)) → ∃ a fd ps, Lnk PySem.Challenge.pw_tablewright_k52_solutions_and_shares w K mg base GT cfT i x n a fd ps := fun i x n hi => by
    match i, hi with
    | 0, hi => cases hi; exact ⟨f0, d0, ["size", "many"], m0, F0.kp, b0, rfl, _, topS 1, n_power, rfl, F0, s_power, k_power, rfl, rfl⟩
    | 1, hi => cases hi; exact ⟨f1, d1, ["size", "args"], m1, F1.kp, b1, rfl, _, topS 2, n_place_of, rfl, F1, s_place_of, k_place_of, rfl, rfl⟩
    | 2, hi => cases hi; exact ⟨f2, d2, ["size", "arity", "place"], m2, F2.kp, b2, rfl, _, topS 3, n_args_at, rfl, F2, s_args_at, k_args_at, rfl, rfl⟩
    | 3, hi => cases hi; exact ⟨f3, d3, ["size", "arity"], m3, F3.kp, b3, rfl, _, topS 4, n_all_args, rfl, F3, s_all_args, k_all_args, rfl, rfl⟩
    | 4, hi => cases hi; exact ⟨f4, d4, ["algebra", "name"], m4, F4.kp, b4, rfl, _, topS 5, n_operation, rfl, F4, s_operation, k_operation, rfl, rfl⟩
    | 5, hi => cases hi; exact ⟨f5, d5, ["algebra", "name", "args"], m5, F5.kp, b5, rfl, _, topS 6, n_applied, rfl, F5, s_applied, k_applied, rfl, rfl⟩
    | 6, hi => cases hi; exact ⟨f6, d6, ["algebra", "term", "args"], m6, F6.kp, b6, rfl, _, topS 8, n_value_of, rfl, F6, s_value_of, k_value_of, rfl, rfl⟩
    | 7, hi => cases hi; exact ⟨f7, d7, ["algebra", "term", "many"], m7, F7.kp, b7, rfl, _, topS 9, n_table_of, rfl, F7, s_table_of, k_table_of, rfl, rfl⟩
    | 8, hi => cases hi; exact ⟨f8, d8, ["term"], m8, F8.kp, b8, rfl, _, topS 10, n_variables, rfl, F8, s_variables, k_variables, rfl, rfl⟩
    | 9, hi => cases hi; exact ⟨f9, d9, ["terms"], m9, F9.kp, b9, rfl, _, topS 12, n_many_in, rfl, F9, s_many_in, k_many_in, rfl, rfl⟩
    | 10, hi => cases hi
    | 11, hi => cases hi; exact ⟨f19, d19, ["top", "under"], m19, F19.kp, b19, rfl, _, topS 24, n_reduced, rfl, F19, s_reduced, k_reduced, rfl, rfl⟩
    | 12, hi => cases hi; exact ⟨f20, d20, ["algebra", "rule", "args"], m20, F20.kp, b20, rfl, _, topS 25, n_true_at, rfl, F20, s_true_at, k_true_at, rfl, rfl⟩
    | 13, hi => cases hi; exact ⟨f21, d21, ["algebra", "rule", "many"], m21, F21.kp, b21, rfl, _, topS 26, n_share, rfl, F21, s_share, k_share, rfl, rfl⟩
    | 14, hi => cases hi
    | 15, hi => cases hi; exact ⟨f10, d10, ["algebra", "equations", "many"], m10, F10.kp, b10, rfl, _, topS 13, n_solutions, rfl, F10, s_solutions, k_solutions, rfl, rfl⟩
    | 16, hi => cases hi; exact ⟨f11, d11, ["algebra", "equations", "args"], m11, F11.kp, b11, rfl, _, topS 14, n_broken, rfl, F11, s_broken, k_broken, rfl, rfl⟩
    | 17, hi => cases hi; exact ⟨f12, d12, ["algebra", "equations", "many"], m12, F12.kp, b12, rfl, _, topS 15, n_solve, rfl, F12, s_solve, k_solve, rfl, rfl⟩
    | 18, hi => cases hi; exact ⟨f13, d13, ["algebra", "equations", "many", "args"], m13, F13.kp, b13, rfl, _, topS 16, n_search, rfl, F13, s_search, k_search, rfl, rfl⟩
    | 19, hi => cases hi; exact ⟨f14, d14, ["algebra", "equations", "many", "told"], m14, F14.kp, b14, rfl, _, topS 17, n_solve_fault, rfl, F14, s_solve_fault, k_solve_fault, rfl, rfl⟩
    | 20, hi => cases hi; exact ⟨f15, d15, ["algebra", "equations", "many", "args", "tree"], m15, F15.kp, b15, rfl, _, topS 18, n_tree_fault, rfl, F15, s_tree_fault, k_tree_fault, rfl, rfl⟩
    | 21, hi => cases hi; exact ⟨f16, d16, ["row", "scope", "rows"], m16, F16.kp, b16, rfl, _, topS 20, n_can_go_on, rfl, F16, s_can_go_on, k_can_go_on, rfl, rfl⟩
    | 22, hi => cases hi; exact ⟨f17, d17, ["limits", "row"], m17, F17.kp, b17, rfl, _, topS 21, n_stopped, rfl, F17, s_stopped, k_stopped, rfl, rfl⟩
    | 23, hi => cases hi; exact ⟨f18, d18, ["size", "many", "limits"], m18, F18.kp, b18, rfl, _, topS 22, n_all_values, rfl, F18, s_all_values, k_all_values, rfl, rfl⟩
    | 24, hi => cases hi; exact ⟨f23, d23, ["state", "most"], m23, F23.kp, b23, rfl, fun k => ok_take F23 s_take rfl fun cdv A outer s H E => take_txt y4 y3⟩
    | 25, hi => cases hi; exact ⟨f24, d24, ["state", "size"], m24, F24.kp, b24, rfl, _, topS 30, n_law_algebra, rfl, F24, s_law_algebra, k_law_algebra, rfl, rfl⟩
    | 26, hi => cases hi; exact ⟨f25, d25, ["state", "many", "depth"], m25, F25.kp, b25, rfl, _, topS 31, n_law_term, rfl, F25, s_law_term, k_law_term, rfl, rfl⟩
    | 27, hi => cases hi; exact ⟨f26, d26, ["algebra", "term", "args"], m26, F26.kp, b26, rfl, _, topS 32, n_law_value, rfl, F26, s_law_value, k_law_value, rfl, rfl⟩
    | 28, hi => cases hi; exact ⟨f27, d27, ["size", "many"], m27, F27.kp, b27, rfl, _, topS 33, n_law_args, rfl, F27, s_law_args, k_law_args, rfl, rfl⟩
    | _ + 29, hi => cases hi
  exact ok_law (N := n_law) (cr := (defBody (topS 34)).drop 1) GTm hbl hf (ok_state (cf := cf0) F22 s_state rfl hbl rfl rfl (fun cdv A outer s H E => state_txt y0) k_state) b22 m22 F22.kp (fun_mk lL cL kL) s_law rfl rfl (.inr (by decide +kernel)) (by decide +kernel) (by decide +kernel) rfl k_law mathT
end
end Ev.K52
namespace Ev.K52
open PySem PySem.Spec PyProof.Rows L2 Ev
theorem cG : Com GT := by
  refine ⟨fun i hi => ?_, fun i hi => ?_, GTm⟩
  · show ownT i = none
    unfold ownT
    rw [if_neg (by omega)]
  · show (comF ++ _)[i]? = _
    rw [List.getElem?_append_left (by exact hi)]
theorem mG : Gm GT := ⟨GTm⟩
theorem hM (k : Nat) : (Phi GT k).Mono := Phi_mono GTm k
theorem hT : GT.own 24 = some takeG := rfl
abbrev EQ2 : Type := Tm × Tm
def dE (e : EQ2) : PyData := .tuple [e.1.d, e.2.d]
def mxE (e : EQ2) : Nat := (maxL 0 (manyL [e.1, e.2])).toNat
theorem tz {m : Nat} {t : Tm} (ht : TmM m 2 t) {k : Nat} (hk : 2 ≤ k) : t.dep ≤ k ∧ t.sz ≤ 63 := by
  have := tm_size ht
  simp at this
  omega
theorem mx_of {m : Nat} {e : EQ2} (h1 : TmM m 2 e.1) (h2 : TmM m 2 e.2) : maxL 0 (manyL [e.1, e.2]) = mxE e ∧ mxE e ≤ m ∧ TmM (mxE e) 2 e.1 ∧ TmM (mxE e) 2 e.2 := by
  obtain ⟨mx, hx, hle, hl, hr⟩ := many_of h1 h2
  have : mxE e = mx := by unfold mxE; rw [hx]; rfl
  rw [this]
  exact ⟨hx, hle, hl, hr⟩
structure Hc (n : Nat) (vs : List Nat) (m : Nat) (eqs : List EQ2) : Prop where
  p : 0 < n
  u : n ≤ 3
  f : full n vs
  m0 : 0 < m
  mu : m ≤ 3
  e : ∀ e, e ∈ eqs → TmM m 2 e.1 ∧ TmM m 2 e.2
  el : eqs.length ≤ 3
def ok1 (n : Nat) (vs : List Nat) (as : List Nat) (e : EQ2) : Bool := decide (vf n vs e.1 as = vf n vs e.2 as)
def bk (n : Nat) (vs : List Nat) (as : List Nat) (e : EQ2) : Bool := decide (mxE e ≤ as.length) && !ok1 n vs as e
def brk (n : Nat) (vs : List Nat) (eqs : List EQ2) (as : List Nat) : Option Nat := eqs.findIdx? (bk n vs as)
def Nbk (n : Nat) (vs : List Nat) (eqs : List EQ2) (as : List Nat) (i : Nat) : Prop := ∀ j e, j < i → eqs[j]? = some e → bk n vs as e = false
theorem Nbk.succ {n : Nat} {vs : List Nat} {eqs : List EQ2} {as : List Nat} {i : Nat} {e : EQ2} (h : Nbk n vs eqs as i) (he : eqs[i]? = some e) (hb : bk n vs as e = false) : Nbk n vs eqs as (i + 1) := fun j e' hj he' => by
  by_cases hji : j = i
  · subst hji
    rw [he] at he'
    cases he'
    exact hb
  · exact h j e' (by omega) he'
theorem Nbk.zero {n : Nat} {vs : List Nat} {eqs : List EQ2} {as : List Nat} : Nbk n vs eqs as 0 := fun j e hj _ => by omega
def dO : Option Nat → PyData
  | none => .none
  | some i => .int (i : Nat)
section
variable {n m : Nat} {vs : List Nat} {eqs : List EQ2}
/-- a value over the first places -/
theorem val_at (hn : 0 < n) (hf : full n vs) {mx : Nat} {t : Tm} (ht : TmM mx 2 t) {as : List Nat} (hl : mx ≤ as.length) (hb : ∀ x, x ∈ as → x < n) : t.val (alg1 n vs) as = some (vf n vs t as) ∧ vf n vs t as < n := by
  have g : ∀ i, i < mx → (as.take mx)[i]? = as[i]? := fun i hi => by rw [List.getElem?_take, if_pos hi]
  have hm : as.take mx ∈ rws n mx := mem_rws (by rw [List.length_take]; omega) fun x hx => hb x (List.mem_of_mem_take hx)
  have := vf_ok hn hf ht _ hm
  rw [val_pre g ht, vf_pre g ht] at this
  exact this
theorem Hc.cons (F : Hc n vs m eqs) {e : EQ2} (he : e ∈ eqs) : maxL 0 (manyL [e.1, e.2]) = mxE e ∧ mxE e ≤ m ∧ TmM (mxE e) 2 e.1 ∧ TmM (mxE e) 2 e.2 := mx_of (F.e e he).1 (F.e e he).2
theorem many_e (F : Hc n vs m eqs) {e : EQ2} (he : e ∈ eqs) (k : Nat) (Q : PyData → Prop) (q : Q (.int (mxE e : Nat))) : Phi GT (k + 5) 9 [dE e] Q := by
  obtain ⟨h1, h2⟩ := F.e e he
  have a := tz h1 (k := k + 3) (by omega)
  have b := tz h2 (k := k + 3) (by omega)
  refine many_okW (k := k + 3) cG [e.1, e.2] (dE e) rfl (fun t ht => ?_) ?_ (by rw [(F.cons he).1]; exact q)
  · simp at ht
    rcases ht with rfl | rfl
    · exact a
    · exact b
  · have h1 := e.1.vs_len
    have h2 := e.2.vs_len
    simp [manyL, prm]
    omega
theorem broken_ok (F : Hc n vs m eqs) {as : List Nat} (hl : as.length ≤ m) (hb : ∀ x, x ∈ as → x < n) (k : Nat) (Q : PyData → Prop) (q : Q (dO (brk n vs eqs as))) : Phi GT (k + 6) 16 [(alg1 n vs).d, .list (eqs.map dE), dR as] Q := by
  have hu := F.u
  refine Phi_fn (D := ⟨3, 5, c_broken⟩) rfl rfl ⟨rfl, ?_⟩
  simp only [c_broken, entry, s_seq, s_skip]
  refine fr_rule (hM _) (((eqs.map dE).zipIdx).map fun p => .tuple [.int (p.2 : Nat), p.1]) (fun i ε => (∃ a b, ε = [.sh (alg1 n vs).d, .sh (.list (eqs.map dE)), .sh (dR as), a, b]) ∧ Nbk n vs eqs as i) ?_ ?_ ?_
  · simp [Nbk.zero]
    rfl
  · rintro i x ε' hx ⟨⟨a, b, rfl⟩, hi⟩
    obtain ⟨⟨pl, j⟩, hv, rfl⟩ := map_some hx
    rw [List.getElem?_zipIdx, List.getElem?_map] at hv
    cases ee : eqs[i]? with
    | none => rw [ee] at hv; simp at hv
    | some e =>
      rw [ee] at hv
      simp at hv
      obtain ⟨rfl, rfl⟩ := hv
      have hm := List.mem_of_getElem? ee
      obtain ⟨_, hle, t1, t2⟩ := F.cons hm
      have z1 := tz t1 (k := k + 2) (by omega)
      have z2 := tz t2 (k := k + 2) (by omega)
      simp
      refine many_e F hm k _ ?_
      simp
      by_cases hx : mxE e ≤ as.length
      · rw [if_pos hx]
        obtain ⟨v1, _⟩ := val_at F.p F.f t1 hx hb
        obtain ⟨v2, _⟩ := val_at F.p F.f t2 hx hb
        simp [dE]
        refine value_ok cG (alg1 n vs) as (dR as) (wf1 _ _) (show n < 4611686018427387904 by omega) at_tup (k + 2) e.1 _ _ z1.1 (by omega) v1 ?_
        refine value_ok cG (alg1 n vs) as (dR as) (wf1 _ _) (show n < 4611686018427387904 by omega) at_tup (k + 2) e.2 _ _ z2.1 (by omega) v2 ?_
        by_cases hq : vf n vs e.1 as = vf n vs e.2 as
        · simp [hq]
          exact hi.succ ee (by simp [bk, ok1, hq])
        · simp [hq]
          have e1 : brk n vs eqs as = some i := by
            unfold brk
            rw [List.findIdx?_eq_some_iff_getElem]
            obtain ⟨h1, h2⟩ := List.getElem?_eq_some_iff.mp ee
            refine ⟨h1, by rw [h2]; simp [bk, ok1, hx, hq], fun j hj => ?_⟩
            rw [hi j _ hj (List.getElem?_eq_getElem (by omega))]
            exact Bool.false_ne_true
          rw [e1] at q
          exact q
      · rw [if_neg hx]
        exact hi.succ ee (by simp [bk, hx])
  · rintro ε' ⟨⟨a, b, rfl⟩, hi⟩
    have e1 : brk n vs eqs as = none := by
      unfold brk
      rw [List.findIdx?_eq_none_iff]
      intro e he
      obtain ⟨j, hj, e2⟩ := List.mem_iff_getElem.mp he
      exact hi j e (by simpa using hj) (by rw [List.getElem?_eq_getElem hj, e2])
    rw [e1] at q
    simp
    exact q
end
end Ev.K52
namespace Ev.K52
open PySem PySem.Spec PyProof.Rows L2 Ev
def fnd (n : Nat) (vs : List Nat) (eqs : List EQ2) : Nat → List Nat → Option (List Nat)
  | 0, as => if (brk n vs eqs as).isSome = true then none else some as
  | k + 1, as => if (brk n vs eqs as).isSome = true then none else (List.range n).findSome? fun v => fnd n vs eqs k (as ++ [v])
def tr (n : Nat) (vs : List Nat) (eqs : List EQ2) : Nat → List Nat → PyData
  | 0, as => match brk n vs eqs as with
    | some i => .tuple [.str "broken", .int (i : Nat)]
    | none => .tuple [.str "found", dR as]
  | k + 1, as => match brk n vs eqs as with
    | some i => .tuple [.str "broken", .int (i : Nat)]
    | none => match fnd n vs eqs (k + 1) as with
      | some bs => .tuple [.str "found", dR bs]
      | none => .tuple [.str "split", .list ((List.range n).map fun v => tr n vs eqs k (as ++ [v]))]
theorem sFo : SeqAt.shaped (.str ("found" : Str)) = true := by decide +kernel
theorem sBr : SeqAt.shaped (.str ("broken" : Str)) = true := by decide +kernel
theorem sSp : SeqAt.shaped (.str ("split" : Str)) = true := by decide +kernel
theorem sNo : SeqAt.shaped (.str ("none" : Str)) = true := by decide +kernel
theorem sLe : SeqAt.shaped (.str ("least" : Str)) = true := by decide +kernel
theorem eFF : op2 .eq (.str ("found" : Str)) (.str ("found" : Str)) = some (.bool true) := by rw [o_eqs sFo sFo]; rfl
theorem eBF : op2 .eq (.str ("broken" : Str)) (.str ("found" : Str)) = some (.bool false) := by rw [o_eqs sBr sFo]; rfl
theorem eSF : op2 .eq (.str ("split" : Str)) (.str ("found" : Str)) = some (.bool false) := by rw [o_eqs sSp sFo]; rfl
theorem eBB : op2 .eq (.str ("broken" : Str)) (.str ("broken" : Str)) = some (.bool true) := by rw [o_eqs sBr sBr]; rfl
theorem eSB : op2 .eq (.str ("split" : Str)) (.str ("broken" : Str)) = some (.bool false) := by rw [o_eqs sSp sBr]; rfl
theorem eNN : op2 .eq (.str ("none" : Str)) (.str ("none" : Str)) = some (.bool true) := by rw [o_eqs sNo sNo]; rfl
theorem eLN : op2 .eq (.str ("least" : Str)) (.str ("none" : Str)) = some (.bool false) := by rw [o_eqs sLe sNo]; rfl
theorem eLL : op2 .eq (.str ("least" : Str)) (.str ("least" : Str)) = some (.bool true) := by rw [o_eqs sLe sLe]; rfl
theorem eNL : op2 .eq (.str ("none" : Str)) (.str ("least" : Str)) = some (.bool false) := by rw [o_eqs sNo sLe]; rfl
theorem findSome_ix {α β : Type} {f : α → Option β} {l : List α} {i : Nat} {x : α} (h : l[i]? = some x) : (l.drop i).findSome? f = match f x with
    | some y => some y
    | none => (l.drop (i + 1)).findSome? f := by
  obtain ⟨hl, e⟩ := List.getElem?_eq_some_iff.mp h
  rw [List.drop_eq_getElem_cons hl, e, List.findSome?_cons]
  cases f x <;> rfl
section
variable {n m : Nat} {vs : List Nat} {eqs : List EQ2}
theorem tr_some : ∀ {k : Nat} {as bs : List Nat}, fnd n vs eqs k as = some bs → tr n vs eqs k as = .tuple [.str "found", dR bs] ∧ brk n vs eqs as = none
  | 0, as, bs, h => by
    rw [fnd] at h
    cases e : brk n vs eqs as with
    | some i => rw [e] at h; cases h
    | none =>
      rw [e] at h
      cases h
      exact ⟨by rw [tr, e], rfl⟩
  | k + 1, as, bs, h => by
    have h' := h
    rw [fnd] at h
    cases e : brk n vs eqs as with
    | some i => rw [e] at h; cases h
    | none => exact ⟨by rw [tr, e]; simp only [h'], rfl⟩
theorem tr_none : ∀ {k : Nat} {as : List Nat}, fnd n vs eqs k as = none → (∃ i, brk n vs eqs as = some i ∧ tr n vs eqs k as = .tuple [.str "broken", .int (i : Nat)]) ∨ (∃ j, k = j + 1 ∧ brk n vs eqs as = none ∧ (∀ v, v < n → fnd n vs eqs j (as ++ [v]) = none) ∧ tr n vs eqs k as = .tuple [.str "split", .list ((List.range n).map fun v => tr n vs eqs j (as ++ [v]))])
  | 0, as, h => by
    rw [fnd] at h
    cases e : brk n vs eqs as with
    | some i => exact .inl ⟨i, rfl, by rw [tr, e]⟩
    | none => rw [e] at h; cases h
  | k + 1, as, h => by
    have h' := h
    rw [fnd] at h
    cases e : brk n vs eqs as with
    | some i => exact .inl ⟨i, rfl, by rw [tr, e]⟩
    | none =>
      rw [e] at h
      rw [if_neg (by simp)] at h
      rw [List.findSome?_eq_none_iff] at h
      exact .inr ⟨k, rfl, rfl, fun v hv => h v (List.mem_range.mpr hv), by rw [tr, e]; simp only [h']⟩
theorem snoc_lt {row : List Nat} {v : Nat} (h : ∀ x, x ∈ row → x < n) (hv : v < n) : ∀ x, x ∈ row ++ [v] → x < n := fun x hx => by
  rcases List.mem_append.mp hx with hx | hx
  · exact h x hx
  · rw [List.mem_singleton] at hx; omega
theorem search_ok (F : Hc n vs m eqs) : ∀ (k : Nat) (as : List Nat) (lev : Nat) (Q : PyData → Prop), as.length + k = m → (∀ x, x ∈ as → x < n) → Q (tr n vs eqs k as) → Phi GT (lev + 7 + k) 18 [(alg1 n vs).d, .list (eqs.map dE), .int (m : Nat), dR as] Q := by
  intro k
  induction k with
  | zero =>
    intro as lev Q hl hb q
    refine Phi_fn (D := ⟨4, 8, c_search⟩) rfl rfl ⟨rfl, ?_⟩
    simp only [c_search, entry, s_seq, s_asg, s_skip]
    simp
    refine broken_ok F (by omega) hb lev _ ?_
    rw [tr] at q
    cases e : brk n vs eqs as with
    | some i =>
      rw [e] at q
      simp [dO, isNoneD]
      exact q
    | none =>
      rw [e] at q
      have : as.length = m := by omega
      simp [dO, isNoneD, this]
      exact q
  | succ k ih =>
    intro as lev Q hl hb q
    have hu := F.u
    have hm := F.mu
    refine Phi_fn (k := lev + 7 + k) (D := ⟨4, 8, c_search⟩) rfl rfl ⟨rfl, ?_⟩
    simp only [c_search, entry, s_seq, s_asg, s_skip]
    simp
    have B := broken_ok F (as := as) (by omega) hb (lev + 1 + k)
    rw [show lev + 1 + k + 6 = lev + 7 + k by omega] at B
    refine B _ ?_
    rw [tr] at q
    cases e : brk n vs eqs as with
    | some i =>
      rw [e] at q
      simp [dO, isNoneD]
      exact q
    | none =>
      rw [e] at q
      have hne : ¬ as.length = m := by omega
      simp [dO, isNoneD, hne]
      have qf : fnd n vs eqs (k + 1) as = (List.range n).findSome? fun v => fnd n vs eqs k (as ++ [v]) := by rw [fnd, e]; simp
      rw [qf] at q
      refine fr_rule (hM _) ((List.range n).map fun (i : Nat) => .int i) (fun i ε => (∃ a b, ε = [.sh (alg1 n vs).d, .sh (.list (eqs.map dE)), .sh (.int (m : Nat)), .sh (dR as), .sh .none, .ow (.list (((List.range n).map fun v => tr n vs eqs k (as ++ [v])).take i)), a, b]) ∧ ((List.range n).drop i).findSome? (fun v => fnd n vs eqs k (as ++ [v])) = (List.range n).findSome? fun v => fnd n vs eqs k (as ++ [v])) ?_ ?_ ?_
      · simp [Alg.d]
        exact it_rng n (by omega)
      · rintro i x ε' hx ⟨⟨a, b, rfl⟩, hi⟩
        obtain ⟨v, hv, rfl⟩ := map_some hx
        have hvn : v < n := List.mem_range.mp (List.mem_of_getElem? hv)
        have hin : i < n := by
          have := (List.getElem?_eq_some_iff.mp hv).1
          simpa using this
        rw [findSome_ix hv] at hi
        simp [add_dR (as := as) (v := v) (by omega)]
        refine ih (as ++ [v]) lev _ (by simp; omega) (snoc_lt hb hvn) ?_
        cases ef : fnd n vs eqs k (as ++ [v]) with
        | some bs =>
          rw [ef] at hi
          rw [(tr_some ef).1]
          rw [← hi] at q
          simp [eFF]
          exact q
        | none =>
          rw [ef] at hi
          have e3 : ((List.range n).map fun v => tr n vs eqs k (as ++ [v])).take (i + 1) = ((List.range n).map fun v => tr n vs eqs k (as ++ [v])).take i ++ [tr n vs eqs k (as ++ [v])] := by
            rw [List.take_add_one, List.getElem?_map, hv]; rfl
          have hlen : (((List.range n).map fun v => tr n vs eqs k (as ++ [v])).take i).length < 16777216 := by simp; omega
          rw [e3]
          generalize ((List.range n).map fun v => tr n vs eqs k (as ++ [v])).take i = zs at *
          rcases tr_none ef with ⟨j, _, e4⟩ | ⟨j, _, _, _, e4⟩
          · rw [e4]
            simp [eBF, m_app hlen]
            exact hi
          · rw [e4]
            simp [eSF, m_app hlen]
            exact hi
      · rintro ε' ⟨⟨a, b, rfl⟩, hi⟩
        rw [List.drop_of_length_le (by simp)] at hi
        rw [← hi] at q
        rw [List.take_of_length_le (by simp)]
        simp [frzE]
        exact q
end
end Ev.K52
namespace Ev.K52
open PySem PySem.Spec PyProof.Rows L2 Ev
def told (n : Nat) (vs : List Nat) (eqs : List EQ2) (m : Nat) : PyData := match fnd n vs eqs m [] with
  | some bs => .tuple [.str "least", dR bs]
  | none => .tuple [.str "none", tr n vs eqs m []]
/-- not broken -/
def gk (n : Nat) (vs : List Nat) (eqs : List EQ2) (as : List Nat) : Bool := (brk n vs eqs as).isNone
section
variable {n m : Nat} {vs : List Nat} {eqs : List EQ2}
theorem solve_ok (F : Hc n vs m eqs) (lev : Nat) (Q : PyData → Prop) (q : Q (told n vs eqs m)) : Phi GT (lev + 8 + m) 17 [(alg1 n vs).d, .list (eqs.map dE), .int (m : Nat)] Q := by
  have h : Phi GT (lev + 7 + m + 1) 17 [(alg1 n vs).d, .list (eqs.map dE), .int (m : Nat)] Q := by
    refine Phi_fn (D := ⟨3, 4, c_solve⟩) rfl rfl ⟨rfl, ?_⟩
    simp only [c_solve, entry, s_seq, s_asg, s_skip]
    simp
    have S := fun Q q => search_ok F m [] lev Q (by simp) (fun x h => by cases h) q
    refine S _ ?_
    unfold told at q
    cases e : fnd n vs eqs m [] with
    | some bs =>
      rw [e] at q
      rw [(tr_some e).1]
      simp [eFF]
      exact q
    | none =>
      rw [e] at q
      rcases tr_none e with ⟨j, _, e4⟩ | ⟨j, _, _, _, e4⟩
      · rw [e4] at q ⊢
        simp [eBF]
        exact q
      · rw [e4] at q ⊢
        simp [eSF]
        exact q
  rw [show lev + 7 + m + 1 = lev + 8 + m by omega] at h
  exact h
theorem bk_at (F : Hc n vs m eqs) {as : List Nat} {i : Nat} (h : brk n vs eqs as = some i) : ∃ e, eqs[i]? = some e ∧ i < eqs.length ∧ mxE e ≤ as.length ∧ ¬ vf n vs e.1 as = vf n vs e.2 as := by
  unfold brk at h
  rw [List.findIdx?_eq_some_iff_getElem] at h
  obtain ⟨h1, h2, _⟩ := h
  refine ⟨eqs[i], List.getElem?_eq_getElem h1, h1, ?_⟩
  unfold bk ok1 at h2
  simpa using h2
theorem tfault_ok (F : Hc n vs m eqs) : ∀ (k : Nat) (as : List Nat) (lev : Nat) (Q : PyData → Prop), as.length + k = m → (∀ x, x ∈ as → x < n) → fnd n vs eqs k as = none → Q .none → Phi GT (lev + 7 + k) 20 [(alg1 n vs).d, .list (eqs.map dE), .int (m : Nat), dR as, tr n vs eqs k as] Q := by
  intro k
  induction k with
  | zero =>
    intro as lev Q hl hb hf q
    have hu := F.u
    rcases tr_none hf with ⟨i, e, e4⟩ | ⟨j, e, _⟩
    · rw [e4]
      obtain ⟨e2, he, hi, hx, hv⟩ := bk_at F e
      have hm := List.mem_of_getElem? he
      obtain ⟨_, hle, t1, t2⟩ := F.cons hm
      have z1 := tz t1 (k := lev + 3) (by omega)
      have z2 := tz t2 (k := lev + 3) (by omega)
      obtain ⟨v1, _⟩ := val_at F.p F.f t1 hx hb
      obtain ⟨v2, _⟩ := val_at F.p F.f t2 hx hb
      have hat : atI (eqs.map dE) (i : Int) = some (dE e2) := atN (by rw [List.getElem?_map, he]; rfl)
      refine Phi_fn (D := ⟨5, 10, c_tree_fault⟩) rfl rfl ⟨rfl, ?_⟩
      simp only [c_tree_fault, entry, s_seq, s_asg, s_skip]
      simp [eBB, hi, hat]
      refine many_e F hm (lev + 1) _ ?_
      simp [hx, hat]
      simp [dE]
      refine value_ok cG (alg1 n vs) as (dR as) (wf1 _ _) (show n < 4611686018427387904 by omega) at_tup (lev + 3) e2.1 _ _ z1.1 (by omega) v1 ?_
      refine value_ok cG (alg1 n vs) as (dR as) (wf1 _ _) (show n < 4611686018427387904 by omega) at_tup (lev + 3) e2.2 _ _ z2.1 (by omega) v2 ?_
      simp [hv]
      exact q
    · omega
  | succ k ih =>
    intro as lev Q hl hb hf q
    have hu := F.u
    have hmu := F.mu
    rcases tr_none hf with ⟨i, e, e4⟩ | ⟨j, ej, e, hall, e4⟩
    · rw [e4]
      obtain ⟨e2, he, hi, hx, hv⟩ := bk_at F e
      have hm := List.mem_of_getElem? he
      obtain ⟨_, hle, t1, t2⟩ := F.cons hm
      have z1 := tz t1 (k := lev + 4 + k) (by omega)
      have z2 := tz t2 (k := lev + 4 + k) (by omega)
      obtain ⟨v1, _⟩ := val_at F.p F.f t1 hx hb
      obtain ⟨v2, _⟩ := val_at F.p F.f t2 hx hb
      have hat : atI (eqs.map dE) (i : Int) = some (dE e2) := atN (by rw [List.getElem?_map, he]; rfl)
      refine Phi_fn (k := lev + 7 + k) (D := ⟨5, 10, c_tree_fault⟩) rfl rfl ⟨rfl, ?_⟩
      simp only [c_tree_fault, entry, s_seq, s_asg, s_skip]
      simp [eBB, hi, hat]
      have M := many_e F hm (lev + 2 + k)
      rw [show lev + 2 + k + 5 = lev + 7 + k by omega] at M
      refine M _ ?_
      simp [hx, hat]
      simp [dE]
      have V1 := fun Q q => value_ok cG (alg1 n vs) as (dR as) (wf1 _ _) (show n < 4611686018427387904 by omega) at_tup (lev + 4 + k) e2.1 _ Q z1.1 (by omega) v1 q
      have V2 := fun Q q => value_ok cG (alg1 n vs) as (dR as) (wf1 _ _) (show n < 4611686018427387904 by omega) at_tup (lev + 4 + k) e2.2 _ Q z2.1 (by omega) v2 q
      rw [show lev + 4 + k + 3 = lev + 7 + k by omega] at V1 V2
      refine V1 _ ?_
      refine V2 _ ?_
      simp [hv]
      exact q
    · have : k = j := by omega
      subst this
      rw [e4]
      refine Phi_fn (k := lev + 7 + k) (D := ⟨5, 10, c_tree_fault⟩) rfl rfl ⟨rfl, ?_⟩
      have hge : ¬ (m ≤ as.length) := by omega
      have hge' : ¬ ((m : Int) ≤ (as.length : Int)) := by omega
      simp only [c_tree_fault, entry, s_seq, s_asg, s_skip]
      simp [eSB, hge, Alg.d]
      refine fr_rule (hM _) ((((List.range n).map fun v => tr n vs eqs k (as ++ [v])).zipIdx).map fun p => .tuple [.int (p.2 : Nat), p.1]) (fun i ε => ∃ a b c d e, ε = [.sh (alg1 n vs).d, .sh (.list (eqs.map dE)), .sh (.int (m : Nat)), .sh (dR as), .sh (.tuple [.str ("split" : Str), .list ((List.range n).map fun v => tr n vs eqs k (as ++ [v]))]), a, b, c, d, e]) ?_ ?_ ?_
      · simp [Alg.d]
        rfl
      · rintro i x ε' hx ⟨a, b, c, d, e, rfl⟩
        obtain ⟨⟨pl, j⟩, hv, rfl⟩ := map_some hx
        rw [List.getElem?_zipIdx, List.getElem?_map] at hv
        have hi : i < n := by
          by_cases hi : i < n
          · exact hi
          · rw [List.getElem?_eq_none (by simp; omega)] at hv; simp at hv
        rw [List.getElem?_range hi] at hv
        simp at hv
        obtain ⟨rfl, rfl⟩ := hv
        simp [add_dR (as := as) (v := i) (by omega)]
        refine ih (as ++ [i]) lev _ (by simp; omega) (snoc_lt hb hi) (hall i hi) ?_
        simp [isNoneD]
      · rintro ε' ⟨a, b, c, d, e, rfl⟩
        simp
        exact q
/-! ### the least solution -/
theorem brk_pre (F : Hc n vs m eqs) {as s : List Nat} (h : brk n vs eqs (as ++ s) = none) : brk n vs eqs as = none := by
  unfold brk at h ⊢
  rw [List.findIdx?_eq_none_iff] at h ⊢
  intro e he
  have h1 := h e he
  obtain ⟨_, _, t1, t2⟩ := F.cons he
  unfold bk ok1 at h1 ⊢
  by_cases hx : mxE e ≤ as.length
  · have g : ∀ i, i < mxE e → (as ++ s)[i]? = as[i]? := fun i hi => by rw [List.getElem?_append_left (by omega)]
    rw [vf_pre g t1, vf_pre g t2, List.length_append, decide_eq_true (show mxE e ≤ as.length + s.length by omega)] at h1
    rw [decide_eq_true hx]
    exact h1
  · rw [decide_eq_false hx]; rfl
theorem fnd_eq (F : Hc n vs m eqs) : ∀ (k : Nat) (as : List Nat), fnd n vs eqs k as = ((rws n k).find? fun s => gk n vs eqs (as ++ s)).map (as ++ ·)
  | 0, as => by
    rw [fnd, rws_zero]
    simp only [List.find?_cons, List.find?_nil, List.append_nil, gk]
    cases brk n vs eqs as <;> simp
  | k + 1, as => by
    rw [fnd, rws_front n F.p k, List.find?_flatMap]
    cases e : brk n vs eqs as with
    | some i =>
      have : ∀ s, gk n vs eqs (as ++ s) = false := fun s => by
        unfold gk
        cases e2 : brk n vs eqs (as ++ s) with
        | some j => rfl
        | none => rw [brk_pre F e2] at e; cases e
      have e2 : ∀ v, v ∈ List.range n → (((rws n k).map (v :: ·)).find? fun s => gk n vs eqs (as ++ s)) = none := fun v _ => List.find?_eq_none.mpr fun s _ => by rw [this]; simp
      rw [if_pos (show (some i).isSome = true from rfl), List.findSome?_eq_none_iff.mpr e2]
      rfl
    | none =>
      rw [if_neg (by simp)]
      have e1 : ∀ v, fnd n vs eqs k (as ++ [v]) = ((((rws n k).map (v :: ·)).find? fun s => gk n vs eqs (as ++ s))).map (as ++ ·) := fun v => by
        rw [fnd_eq F k (as ++ [v]), List.find?_map]
        simp only [List.append_assoc, List.singleton_append, Function.comp_def, Option.map_map]
      simp only [e1]
      induction List.range n with
      | nil => rfl
      | cons v l ih =>
        rw [List.findSome?_cons, List.findSome?_cons, ih]
        cases (((rws n k).map (v :: ·)).find? fun s => gk n vs eqs (as ++ s)) <;> rfl
theorem fnd_top (F : Hc n vs m eqs) : fnd n vs eqs m [] = (rws n m).find? (gk n vs eqs) := by
  rw [fnd_eq F]
  simp
theorem gk_full (F : Hc n vs m eqs) {as : List Nat} (hl : as.length = m) : gk n vs eqs as = eqs.all (ok1 n vs as) := by
  unfold gk brk
  apply Bool.eq_iff_iff.mpr
  rw [Option.isNone_iff_eq_none, List.findIdx?_eq_none_iff, List.all_eq_true]
  constructor
  · intro h e he
    have := h e he
    obtain ⟨_, hle, _, _⟩ := F.cons he
    unfold bk at this
    rw [decide_eq_true (show mxE e ≤ as.length by omega)] at this
    simpa using this
  · intro h e he
    unfold bk
    rw [h e he]
    simp
end
end Ev.K52
namespace Ev.K52
open PySem PySem.Spec PyProof.Rows L2 Ev
section
variable {n m : Nat} {vs : List Nat} {eqs : List EQ2}
theorem pw3 {n e : Nat} (hn : n ≤ 3) (he : e ≤ 3) : n ^ e ≤ 27 := by
  have h1 : n ^ e ≤ 3 ^ e := Nat.pow_le_pow_left hn e
  have h2 : 3 ^ e ≤ 3 ^ 3 := Nat.pow_le_pow_right (by decide) he
  omega
theorem sfault_ok (F : Hc n vs m eqs) (lev : Nat) (Q : PyData → Prop) (q : Q .none) : Phi GT (lev + 8 + m) 19 [(alg1 n vs).d, .list (eqs.map dE), .int (m : Nat), told n vs eqs m] Q := by
  have hu := F.u
  have hmu := F.mu
  have h : Phi GT (lev + 7 + m + 1) 19 [(alg1 n vs).d, .list (eqs.map dE), .int (m : Nat), told n vs eqs m] Q := by
    refine Phi_fn (D := ⟨4, 9, c_solve_fault⟩) rfl rfl ⟨rfl, ?_⟩
    simp only [c_solve_fault, entry, s_seq, s_asg, s_skip]
    unfold told
    cases e : fnd n vs eqs m [] with
    | none =>
      simp [eNN]
      exact tfault_ok F m [] lev Q (by simp) (fun x h => by cases h) e q
    | some bs =>
      have e0 := e
      rw [fnd_top F] at e
      have hmem := List.mem_of_find?_eq_some e
      have hgk := List.find?_some e
      obtain ⟨hl, hb⟩ := rws_mem F.p hmem
      have hbrk : brk n vs eqs bs = none := by
        unfold gk at hgk
        exact Option.isNone_iff_eq_none.mp hgk
      simp [eLN, Alg.d, hl]
      refine comp_by (hM _) bs (fun x => .int (x : Nat)) (fun _ => .bool true) ?_ ?_ ?_ ?_
      · simp
        rfl
      · intro x hx
        have := hb x hx
        simp [wipeE, backE, this]
      · show bs.length ≤ 16777216
        omega
      · have fa := f_all (fun _ : Nat => true) bs
        rw [fa]
        simp
        have B := fun as h1 h2 Q q => broken_ok F (as := as) h1 h2 (lev + 1 + m) Q q
        rw [show lev + 1 + m + 6 = lev + 7 + m by omega] at B
        simp only [Alg.d, List.map_cons, List.map_nil] at B
        refine B bs (by omega) hb _ ?_
        rw [hbrk]
        simp [dO, isNoneD]
        refine fr_rule (hM _) ((rws n m).map dR) (fun i ε => ∃ a b, ε = [.sh (alg1 n vs).d, .sh (.list (eqs.map dE)), .sh (.int (m : Nat)), .sh (.tuple [.str ("least" : Str), dR bs]), .sh (dR bs), .sh (.int (n : Nat)), .sh .none, a, b]) ?_ ?_ ?_
        · simp [Alg.d]
          have A := fun Q q => all_ok' (k := lev + 5 + m) (G := GT) cG n m F.p (by omega) (by omega) (Nat.le_trans (pw3 hu hmu) (by decide)) (Q := Q) q
          rw [show lev + 5 + m + 2 = lev + 7 + m by omega] at A
          refine A _ ?_
          simp
        · rintro i x ε' hx ⟨a, b, rfl⟩
          obtain ⟨as, ha, rfl⟩ := map_some hx
          have hm := List.mem_of_getElem? ha
          obtain ⟨h3, h4⟩ := rws_mem F.p hm
          simp only [tg_nm, retE_s, List.set_cons_succ, List.set_cons_zero, s_seq, s_ifs, x_tnd, x_v, x_op, x_rd, List.getElem?_cons_zero, List.getElem?_cons_succ, gSh_sh, okO_rd, true_and]
          rw [lt_dR]
          simp only [retD_s, t_b, retB_s]
          by_cases hlt : lx as bs = true
          · rw [if_pos hlt]
            simp only [x_un, x_cl, x_cons, x_nil, x_rd, List.getElem?_cons_zero, List.getElem?_cons_succ, gSh_sh]
            simp only [Alg.d, List.map_cons, List.map_nil]
            refine B as (by omega) h4 _ ?_
            cases eb : brk n vs eqs as with
            | some i => simp [dO, isNoneD]
            | none =>
              have := find_first (rws_lx n F.p m) e as hm (by unfold gk; rw [eb]; rfl)
              rw [this] at hlt
              cases hlt
          · rw [if_neg hlt]
            simp
        · rintro ε' ⟨a, b, rfl⟩
          simp
          exact q
  rw [show lev + 7 + m + 1 = lev + 8 + m by omega] at h
  exact h
/-- solutions -/
theorem sols_ok (F : Hc n vs m eqs) (lev : Nat) (Q : PyData → Prop) (q : Q (.list (((rws n m).filter fun as => eqs.all (ok1 n vs as)).map dR))) : Phi GT (lev + 6) 15 [(alg1 n vs).d, .list (eqs.map dE), .int (m : Nat)] Q := by
  have hu := F.u
  have hmu := F.mu
  have hp : n ^ m ≤ 27 := pw3 hu hmu
  refine Phi_fn (D := ⟨3, 7, c_solutions⟩) rfl rfl ⟨rfl, ?_⟩
  simp only [c_solutions, entry, s_seq, s_asgO, s_skip]
  simp
  refine fr_rule (hM _) ((rws n m).map dR) (fun i ε => ∃ a b c, ε = [.sh (alg1 n vs).d, .sh (.list (eqs.map dE)), .sh (.int (m : Nat)), .ow (.list ((((rws n m).take i).filter fun as => eqs.all (ok1 n vs as)).map dR)), a, b, c]) ?_ ?_ ?_
  · simp [Alg.d]
    refine all_ok' (k := lev + 3) cG n m F.p (by omega) (by omega) (Nat.le_trans hp (by decide)) ?_
    simp
  · rintro i x ε' hx ⟨a, b, c, rfl⟩
    obtain ⟨as, ha, rfl⟩ := map_some hx
    have hm := List.mem_of_getElem? ha
    obtain ⟨h3, h4⟩ := rws_mem F.p hm
    have hi : i < (rws n m).length := (List.getElem?_eq_some_iff.mp ha).1
    have e1 : (rws n m).take (i + 1) = (rws n m).take i ++ [as] := by rw [List.take_add_one, ha]; rfl
    have hlen : ((((rws n m).take i).filter fun as => eqs.all (ok1 n vs as)).map dR).length < 16777216 := by
      rw [List.length_map]
      have := List.length_filter_le (fun as => eqs.all (ok1 n vs as)) ((rws n m).take i)
      rw [List.length_take] at this
      rw [rws_len] at hi this
      omega
    rw [e1, List.filter_append, List.map_append]
    generalize (((rws n m).take i).filter fun as => eqs.all (ok1 n vs as)).map dR = zs at *
    simp only [tg_nm, retE_s, List.set_cons_succ, List.set_cons_zero, s_seq, s_ifs, s_skip, x_v, x_bi, x_cons, x_nil]
    refine comp_by (hM _) eqs dE (fun e => .bool (ok1 n vs as e)) ?_ ?_ ?_ ?_
    · simp
    · intro e he
      obtain ⟨t1, t2⟩ := F.e e he
      have z1 := tz t1 (k := lev + 2) (by omega)
      have z2 := tz t2 (k := lev + 2) (by omega)
      obtain ⟨v1, _⟩ := val_at F.p F.f t1 (show m ≤ as.length by omega) h4
      obtain ⟨v2, _⟩ := val_at F.p F.f t2 (show m ≤ as.length by omega) h4
      simp only [wipeE, List.set_cons_succ, List.set_cons_zero, dE, tg_tp, tgs_nm, tgs_nil, retE_s, x_op, x_cl, x_cons, x_nil, x_rd, List.getElem?_cons_zero, List.getElem?_cons_succ, gSh_sh]
      refine value_ok cG (alg1 n vs) as (dR as) (wf1 _ _) (show n < 4611686018427387904 by omega) at_tup (lev + 2) e.1 _ _ z1.1 (by omega) v1 ?_
      refine value_ok cG (alg1 n vs) as (dR as) (wf1 _ _) (show n < 4611686018427387904 by omega) at_tup (lev + 2) e.2 _ _ z2.1 (by omega) v2 ?_
      by_cases hq : vf n vs e.1 as = vf n vs e.2 as <;> simp [backE, ok1, hq]
    · show eqs.length ≤ 16777216
      have := F.el
      omega
    · rw [f_all]
      refine ⟨by simp, ?_⟩
      show retD (some (PyData.bool (eqs.all (ok1 n vs as)))) _
      cases hq : eqs.all (ok1 n vs as) with
      | true =>
        rw [List.filter_cons_of_pos (p := fun as => eqs.all (ok1 n vs as)) hq, List.filter_nil]
        simp [m_app hlen]
      | false =>
        rw [List.filter_cons_of_neg (p := fun as => eqs.all (ok1 n vs as)) (by rw [hq]; exact Bool.false_ne_true), List.filter_nil]
        simp
  · rintro ε' ⟨a, b, c, rfl⟩
    rw [List.take_of_length_le (by simp)]
    simp [frzE]
    exact q
end
end Ev.K52
namespace Ev.K52
open PySem PySem.Spec PyProof.Rows L2 Ev
/-- the row goes on -/
def pre (row one : List Nat) : Bool := decide (one.take row.length = row)
def gj (row one : List Nat) (j : Nat) : Bool := decide (∀ t, t < j → t < row.length → one[t]? = row[t]?)
theorem gj_zero (row one : List Nat) : gj row one 0 = true := decide_eq_true fun t h => by omega
theorem gj_succ {row one : List Nat} {j x : Nat} (h : one[j]? = some x) : gj row one (j + 1) = (gj row one j && (decide (row.length ≤ j) || decide (row[j]? = some x))) := by
  apply Bool.eq_iff_iff.mpr
  unfold gj
  rw [decide_eq_true_eq, Bool.and_eq_true, decide_eq_true_eq, Bool.or_eq_true, decide_eq_true_eq, decide_eq_true_eq]
  constructor
  · intro g
    refine ⟨fun t h1 h2 => g t (by omega) h2, ?_⟩
    by_cases hj : row.length ≤ j
    · exact .inl hj
    · exact .inr (by rw [← g j (by omega) (by omega), h])
  · rintro ⟨g1, g2⟩ t h1 h2
    by_cases ht : t = j
    · subst ht
      rcases g2 with g2 | g2
      · omega
      · rw [h, g2]
    · exact g1 t (by omega) h2
theorem gj_all {row one : List Nat} {m : Nat} (h1 : one.length = m) (h2 : row.length ≤ m) : gj row one m = pre row one := by
  apply Bool.eq_iff_iff.mpr
  unfold gj pre
  rw [decide_eq_true_eq, decide_eq_true_eq]
  constructor
  · intro g
    apply List.ext_getElem?
    intro t
    by_cases ht : t < row.length
    · rw [List.getElem?_take, if_pos ht]
      exact g t (by omega) ht
    · rw [List.getElem?_eq_none (by rw [List.length_take]; omega), List.getElem?_eq_none (by omega)]
  · intro e t _ h4
    rw [← e, List.getElem?_take, if_pos h4]
theorem any_ix {α : Type} {p : α → Bool} {l : List α} {i : Nat} {x : α} (h : l[i]? = some x) : (l.drop i).any p = (p x || (l.drop (i + 1)).any p) := by
  obtain ⟨hl, e⟩ := List.getElem?_eq_some_iff.mp h
  rw [List.drop_eq_getElem_cons hl, e, List.any_cons]
theorem cango_ok {m : Nat} {row : List Nat} {ab : List (List Nat)} (hm : m ≤ 3) (hr : row.length ≤ m) (ha : ∀ one, one ∈ ab → one.length = m) (k : Nat) (Q : PyData → Prop) (q : Q (.bool (ab.any (pre row)))) : Phi GT (k + 1) 21 [dL row, dR (List.range m), .list (ab.map dR)] Q := by
  refine Phi_fn (D := ⟨3, 8, c_can_go_on⟩) rfl rfl ⟨rfl, ?_⟩
  simp only [c_can_go_on, entry, s_seq, s_skip]
  refine fr_rule (hM _) (ab.map dR) (fun i ε => (∃ a b c d e, ε = [.sh (dL row), .sh (dR (List.range m)), .sh (.list (ab.map dR)), a, b, c, d, e]) ∧ (ab.drop i).any (pre row) = ab.any (pre row)) ?_ ?_ ?_
  · simp
  · rintro i x ε' hx ⟨⟨a, b, c, d, e, rfl⟩, hi⟩
    obtain ⟨one, ho, rfl⟩ := map_some hx
    have hl := ha one (List.mem_of_getElem? ho)
    rw [any_ix ho] at hi
    simp only [tg_nm, retE_s, List.set_cons_succ, List.set_cons_zero, s_seq, s_asgO, s_asg, x_dnew, x_bl, Bool.false_eq_true, if_false]
    refine fr_rule (hM _) (List.zipWith (fun x y => PyData.tuple [x, y]) (dI (List.range m)) (dI one)) (fun j ε => ∃ kvs d e, ε = [.sh (dL row), .sh (dR (List.range m)), .sh (.list (ab.map dR)), .sh (dR one), .ow (.dict kvs), .sh (.bool (gj row one j)), d, e] ∧ okK kvs = true ∧ kvs.length ≤ j ∧ ∀ t : Nat, j ≤ t → lookK kvs (.inl (t : Int)) = none) ?_ ?_ ?_
    · simp only [x_cons, x_nil, x_rd, List.getElem?_cons_zero, List.getElem?_cons_succ, gSh_sh]
      rw [gj_zero]
      exact ⟨rfl, [], _, _, rfl, rfl, Nat.le_refl _, fun t _ => rfl⟩
    · rintro j x ε' hx ⟨kvs, d, e, rfl, ok, hlen, hno⟩
      have hj : j < m := by
        have := (List.getElem?_eq_some_iff.mp hx).1
        simp at this
        omega
      obtain ⟨y, hy⟩ : ∃ y, one[j]? = some y := ⟨one[j]'(by omega), List.getElem?_eq_getElem (by omega)⟩
      have ex : x = .tuple [.int (j : Nat), .int (y : Nat)] := by
        rw [List.getElem?_zipWith, dI_get, dI_get, List.getElem?_range hj, hy] at hx
        exact (Option.some.inj hx).symm
      subst ex
      have hg := dGet_K (c := .int (j : Nat)) ok kOf_int
      rw [hno j (Nat.le_refl _)] at hg
      have hp := dPut_K (c := .int (j : Nat)) (d := .int (y : Nat)) ok kOf_int (by omega)
      rw [gj_succ hy]
      have fin : ∃ kvs' d e, ([.sh (dL row), .sh (dR (List.range m)), .sh (.list (ab.map dR)), .sh (dR one), .ow (.dict (putKd kvs (.int (j : Nat)) (.inl (j : Int)) (.int (y : Nat)))), .sh (.bool (gj row one j && (decide (row.length ≤ j) || decide (row[j]? = some y)))), .sh (.int (j : Nat)), .sh (.int (y : Nat))] : Env) = [.sh (dL row), .sh (dR (List.range m)), .sh (.list (ab.map dR)), .sh (dR one), .ow (.dict kvs'), .sh (.bool (gj row one j && (decide (row.length ≤ j) || decide (row[j]? = some y)))), d, e] ∧ okK kvs' = true ∧ kvs'.length ≤ j + 1 ∧ ∀ t : Nat, j + 1 ≤ t → lookK kvs' (.inl (t : Int)) = none := by
        refine ⟨_, _, _, rfl, okK_put ok kOf_int, Nat.le_trans len_putK (by omega), fun t ht => ?_⟩
        rw [lookK_put kOf_int, if_neg (by intro z; have := Sum.inl.inj z; omega)]
        exact hno t (by omega)
      have sto : ∀ (b : Bool) (P : Po), P.nx [.sh (dL row), .sh (dR (List.range m)), .sh (.list (ab.map dR)), .sh (dR one), .ow (.dict (putKd kvs (.int (j : Nat)) (.inl (j : Int)) (.int (y : Nat)))), .sh (.bool b), .sh (.int (j : Nat)), .sh (.int (y : Nat))] → exS (Phi GT k) (.seti (.sl 4) (.rd (.sl 6)) (.rd (.sl 7))) [.sh (dL row), .sh (dR (List.range m)), .sh (.list (ab.map dR)), .sh (dR one), .ow (.dict kvs), .sh (.bool b), .sh (.int (j : Nat)), .sh (.int (y : Nat))] P := by
        intro b P h
        simp
        rw [setS_d, hp]
        exact h
      simp only [tg_tp, tgs_nm, tgs_nil, retE_s, List.set_cons_succ, List.set_cons_zero, s_seq, s_asg, s_skip, x_nd, x_rd, List.getElem?_cons_zero, List.getElem?_cons_succ, gSh_sh]
      generalize gj row one j = G at *
      cases G with
      | false =>
        simp only [caseB_b, if_neg Bool.false_ne_true, List.set_cons_succ, List.set_cons_zero]
        refine sto _ _ ?_
        simpa using fin
      | true =>
        simp only [caseB_b, if_pos, x_op, x_mt, x_own, x_cons, x_nil, x_rd, x_or, x_bi, x_idx, List.getElem?_cons_zero, List.getElem?_cons_succ, gOw_ow, gSh_sh, mtK_get, dOk_K ok, mtS_get2, hg, Option.map_some, Option.getD_none, retD_s, okO_mt, okO_rd, okOs_cons, okOs_nil, true_and, o_eqi, decide_true, f_lenL, o_ge]
        have hown : okO (.own (.sl 4)) (.dict kvs) [.sh (dL row), .sh (dR (List.range m)), .sh (.list (ab.map dR)), .sh (dR one), .ow (.dict kvs), .sh (.bool true), .sh (.int (j : Nat)), .sh (.int (y : Nat))] := rfl
        refine ⟨hown, ?_⟩
        by_cases hge : row.length ≤ j
        · have hge' : (row.length : Int) ≤ (j : Int) := by omega
          rw [decide_eq_true hge']
          simp only [caseB_b, if_pos, List.set_cons_succ, List.set_cons_zero]
          refine sto _ _ ?_
          simpa [hge] using fin
        · have hge' : ¬ (row.length : Int) ≤ (j : Int) := by omega
          rw [decide_eq_false hge']
          simp only [caseB_b, if_neg Bool.false_ne_true]
          obtain ⟨z, hz⟩ : ∃ z, row[j]? = some z := ⟨row[j]'(by omega), List.getElem?_eq_getElem (by omega)⟩
          rw [ix_dL hz]
          simp only [retD_s, o_eqi, okO_idx, true_and, List.set_cons_succ, List.set_cons_zero]
          refine sto _ _ ?_
          simpa [hge, hz] using fin
    · rintro ε' ⟨kvs, d, e, rfl, ok, hlen, hno⟩
      have el : (List.zipWith (fun x y => PyData.tuple [x, y]) (dI (List.range m)) (dI one)).length = m := by simp [hl]
      rw [el, gj_all hl hr]
      simp
      cases hp : pre row one with
      | true =>
        rw [hp] at hi
        rw [← hi] at q
        simp
        simpa using q
      | false =>
        rw [hp] at hi
        simp
        simpa using hi
  · rintro ε' ⟨⟨a, b, c, d, e, rfl⟩, hi⟩
    rw [List.drop_of_length_le (by simp)] at hi
    rw [← hi] at q
    simp
    exact q
end Ev.K52
namespace Ev.K52
open PySem PySem.Spec PyProof.Rows L2 Ev
section
variable {n m : Nat} {vs : List Nat} {eqs : List EQ2}
/-- the rows that an equation takes -/
abbrev ab (n : Nat) (vs : List Nat) (m : Nat) (e : EQ2) : List (List Nat) := (rws n m).filter fun as => ok1 n vs as e
def dLim (n : Nat) (vs : List Nat) (m : Nat) (e : EQ2) : PyData := .tuple [dR (List.range m), .list ((ab n vs m e).map dR)]
def go (n : Nat) (vs : List Nat) (m : Nat) (row : List Nat) (e : EQ2) : Bool := (ab n vs m e).any (pre row)
def gs (n : Nat) (vs : List Nat) (m : Nat) (eqs : List EQ2) (row : List Nat) : Bool := eqs.all (go n vs m row)
def stp (n : Nat) (vs : List Nat) (m : Nat) (eqs : List EQ2) (row : List Nat) : Option Nat := eqs.findIdx? fun e => !go n vs m row e
theorem stp_none {row : List Nat} : (isNoneD (dO (stp n vs m eqs row))) = gs n vs m eqs row := by
  have h : (isNoneD (dO (stp n vs m eqs row))) = (stp n vs m eqs row).isNone := by cases stp n vs m eqs row <;> rfl
  rw [h]
  apply Bool.eq_iff_iff.mpr
  unfold stp gs
  rw [Option.isNone_iff_eq_none, List.findIdx?_eq_none_iff, List.all_eq_true]
  constructor
  · intro h e he
    simpa using h e he
  · intro h e he
    simpa using h e he
theorem stopped_ok (F : Hc n vs m eqs) {row : List Nat} (hr : row.length ≤ m) (k : Nat) (Q : PyData → Prop) (q : Q (dO (stp n vs m eqs row))) : Phi GT (k + 2) 22 [.list (eqs.map (dLim n vs m)), dL row] Q := by
  refine Phi_fn (D := ⟨2, 5, c_stopped⟩) rfl rfl ⟨rfl, ?_⟩
  simp only [c_stopped, entry, s_seq, s_skip]
  refine fr_rule (hM _) (((eqs.map (dLim n vs m)).zipIdx).map fun p => .tuple [.int (p.2 : Nat), p.1]) (fun i ε => (∃ a b c, ε = [.sh (.list (eqs.map (dLim n vs m))), .sh (dL row), a, b, c]) ∧ ∀ j, j < i → ∀ e : EQ2, eqs[j]? = some e → go n vs m row e = true) ?_ ?_ ?_
  · simp only [x_cons, x_nil, x_rd, List.getElem?_cons_zero, gSh_sh]
    exact ⟨rfl, ⟨_, _, _, rfl⟩, fun j h => by omega⟩
  · rintro i x ε' hx ⟨⟨a, b, c, rfl⟩, hi⟩
    obtain ⟨⟨pl, j⟩, hv, rfl⟩ := map_some hx
    rw [List.getElem?_zipIdx, List.getElem?_map] at hv
    cases ee : eqs[i]? with
    | none => rw [ee] at hv; simp at hv
    | some e =>
      rw [ee] at hv
      simp at hv
      obtain ⟨rfl, rfl⟩ := hv
      have A := fun Q q => cango_ok (m := m) (row := row) (ab := ab n vs m e) F.mu hr (fun one ho => (rws_mem F.p (List.mem_filter.mp ho).1).1) k Q q
      simp only [dLim, tg_tp, tgs_nm, tgs_tp, tgs_nil, Option.bind_some, retE_s, List.set_cons_succ, List.set_cons_zero, s_seq, s_ifs, s_skip, x_tnt, x_v, x_cl, x_cons, x_nil, x_rd, List.getElem?_cons_zero, List.getElem?_cons_succ, gSh_sh]
      refine A _ ?_
      simp only [t_b, retB_s]
      cases hg : (ab n vs m e).any (pre row) with
      | true =>
        simp only [Bool.not_true, if_neg Bool.false_ne_true]
        refine ⟨⟨_, _, _, rfl⟩, fun j hj e' he' => ?_⟩
        by_cases hji : j = i
        · subst hji
          rw [ee] at he'
          cases he'
          exact hg
        · exact hi j (by omega) e' he'
      | false =>
        simp only [Bool.not_false, if_pos, s_ret, x_rd, List.getElem?_cons_zero, List.getElem?_cons_succ, gSh_sh]
        have e1 : stp n vs m eqs row = some i := by
          unfold stp
          rw [List.findIdx?_eq_some_iff_getElem]
          obtain ⟨h1, h2⟩ := List.getElem?_eq_some_iff.mp ee
          refine ⟨h1, by rw [h2]; unfold go; rw [hg]; rfl, fun j hj => ?_⟩
          rw [hi j hj _ (List.getElem?_eq_getElem (by omega))]
          exact Bool.false_ne_true
        rw [e1] at q
        exact q
  · rintro ε' ⟨⟨a, b, c, rfl⟩, hi⟩
    have e1 : stp n vs m eqs row = none := by
      unfold stp
      rw [List.findIdx?_eq_none_iff]
      intro e he
      obtain ⟨j, hj, e2⟩ := List.mem_iff_getElem.mp he
      rw [hi j (by simpa using hj) e (by rw [List.getElem?_eq_getElem hj, e2])]
      rfl
    rw [e1] at q
    simp
    exact q
/-! ### the values -/
theorem pre_snoc {row one : List Nat} {v : Nat} (h : pre (row ++ [v]) one = true) : pre row one = true := by
  unfold pre at h ⊢
  rw [decide_eq_true_eq] at h ⊢
  have := congrArg (List.take row.length) h
  rw [List.take_take, List.length_append, List.length_singleton, Nat.min_eq_left (by omega), List.take_append_of_le_length (Nat.le_refl _), List.take_length] at this
  exact this
theorem gs_snoc {row : List Nat} {v : Nat} (h : gs n vs m eqs (row ++ [v]) = true) : gs n vs m eqs row = true := by
  unfold gs at h ⊢
  rw [List.all_eq_true] at h ⊢
  intro e he
  have := h e he
  unfold go at this ⊢
  rw [List.any_eq_true] at this ⊢
  obtain ⟨one, h1, h2⟩ := this
  exact ⟨one, h1, pre_snoc h2⟩
theorem flat_filter {α β : Type} {p : α → Bool} {h : α → List β} (hp : ∀ a, p a = false → h a = []) : ∀ l : List α, (l.filter p).flatMap h = l.flatMap h
  | [] => rfl
  | a :: l => by
    cases e : p a with
    | true => rw [List.filter_cons_of_pos e, List.flatMap_cons, List.flatMap_cons, flat_filter hp l]
    | false => rw [List.filter_cons_of_neg (by rw [e]; exact Bool.false_ne_true), List.flatMap_cons, hp a e, flat_filter hp l]; rfl
theorem gs_step (hn : 0 < n) (k : Nat) : ((rws n k).filter (gs n vs m eqs)).flatMap (fun r => ((List.range n).filter fun v => gs n vs m eqs (r ++ [v])).map fun v => r ++ [v]) = (rws n (k + 1)).filter (gs n vs m eqs) := by
  rw [flat_filter fun r hr => ?_, rws_succ n k hn, List.filter_flatMap]
  · congr 1
    funext r
    rw [List.filter_map]
    rfl
  · have : ((List.range n).filter fun v => gs n vs m eqs (r ++ [v])) = [] := List.filter_eq_nil_iff.mpr fun v _ z => by
      rw [gs_snoc z] at hr
      cases hr
    rw [this]; rfl
theorem gs_full (hn : 0 < n) {row : List Nat} (h : row ∈ rws n m) : gs n vs m eqs row = eqs.all (ok1 n vs row) := by
  unfold gs
  congr 1
  funext e
  obtain ⟨hl, hb⟩ := rws_mem hn h
  apply Bool.eq_iff_iff.mpr
  unfold go
  rw [List.any_eq_true]
  constructor
  · rintro ⟨one, h1, h2⟩
    obtain ⟨h3, h4⟩ := List.mem_filter.mp h1
    unfold pre at h2
    rw [decide_eq_true_eq, List.take_of_length_le (by rw [hl, (rws_mem hn h3).1]; exact Nat.le_refl _)] at h2
    rw [← h2]; exact h4
  · intro h1
    refine ⟨row, List.mem_filter.mpr ⟨h, h1⟩, ?_⟩
    unfold pre
    rw [decide_eq_true_eq, List.take_length]
theorem pow_le3 {k : Nat} (F : Hc n vs m eqs) (h : k ≤ m) : n ^ k ≤ 27 := by
  have := F.mu
  exact pw3 F.u (by omega)
theorem allv_ok (F : Hc n vs m eqs) (k : Nat) (Q : PyData → Prop) (q : Q (.list (((rws n m).filter fun as => eqs.all (ok1 n vs as)).map dL))) : Phi GT (k + 3) 23 [.int (n : Nat), .int (m : Nat), .list (eqs.map (dLim n vs m))] Q := by
  have hu := F.u
  have hm := F.mu
  have e0 : (rws n m).filter (fun as => eqs.all (ok1 n vs as)) = (rws n m).filter (gs n vs m eqs) := List.filter_congr fun as ha => (gs_full F.p ha).symm
  rw [e0] at q
  refine Phi_fn (D := ⟨3, 8, c_all_values⟩) rfl rfl ⟨rfl, ?_⟩
  simp only [c_all_values, entry, s_seq, s_asg, s_skip, x_ite, x_v, x_un, x_cl, x_cons, x_nil, x_rd, x_lst, List.getElem?_cons_zero, List.getElem?_cons_succ, gSh_sh]
  refine stopped_ok F (row := []) (by simp) k _ ?_
  simp only [u_isN, retD_s, t_b, retB_s]
  rw [stp_none]
  have start : ∀ (P : Env → Prop), P ([.sh (.int (n : Nat)), .sh (.int (m : Nat)), .sh (.list (eqs.map (dLim n vs m))), .sh (.list (((rws n 0).filter (gs n vs m eqs)).map dL)), U, U, U, U]) → (if gs n vs m eqs [] = true then P [.sh (.int (n : Nat)), .sh (.int (m : Nat)), .sh (.list (eqs.map (dLim n vs m))), .sh (.list [.list []]), U, U, U, U] else P [.sh (.int (n : Nat)), .sh (.int (m : Nat)), .sh (.list (eqs.map (dLim n vs m))), .sh (.list []), U, U, U, U]) := by
    intro P hP
    rw [rws_zero] at hP
    by_cases hg : gs n vs m eqs [] = true
    · rw [List.filter_cons_of_pos hg] at hP
      rw [if_pos hg]
      exact hP
    · rw [List.filter_cons_of_neg hg] at hP
      rw [if_neg hg]
      exact hP
  refine start (fun ε => exS (Phi GT (k + 2)) _ ε _) ?_
  refine fr_rule (hM _) ((List.range m).map fun (i : Nat) => .int i) (fun i ε => ∃ a b c d, ε = [.sh (.int (n : Nat)), .sh (.int (m : Nat)), .sh (.list (eqs.map (dLim n vs m))), .sh (.list (((rws n i).filter (gs n vs m eqs)).map dL)), a, b, c, d] ∧ (d = U)) ?_ ?_ ?_
  · simp only [x_cons, x_nil, x_rd, List.getElem?_cons_zero, List.getElem?_cons_succ, gSh_sh]
    exact ⟨it_rng m (by omega), _, _, _, _, rfl, rfl⟩
  · rintro i x ε' hx ⟨a, b, c, d, rfl, rfl⟩
    have hi : i < m := by
      have := (List.getElem?_eq_some_iff.mp hx).1
      simpa using this
    have hp1 := pow_le3 F (show i + 1 ≤ m by omega)
    simp only [tg_nm, retE_s, List.set_cons_succ, List.set_cons_zero, s_seq, s_asgO, s_skip, x_lst, x_nil]
    rw [← gs_step F.p i]
    generalize hL : (rws n i).filter (gs n vs m eqs) = L
    have hLm : ∀ r, r ∈ L → r ∈ rws n i := fun r hr => by rw [← hL] at hr; exact (List.mem_filter.mp hr).1
    refine fr_rule (hM _) (L.map dL) (fun j ε => ∃ c, ε = [.sh (.int (n : Nat)), .sh (.int (m : Nat)), .sh (.list (eqs.map (dLim n vs m))), .sh (.list (L.map dL)), .sh x, .ow (.list (((L.take j).flatMap fun r => ((List.range n).filter fun v => gs n vs m eqs (r ++ [v])).map fun v => r ++ [v]).map dL)), c, U]) ?_ ?_ ?_
    · simp
    · rintro j y ε' hy ⟨c, rfl⟩
      obtain ⟨r, hr, rfl⟩ := map_some hy
      have hmr := hLm r (List.mem_of_getElem? hr)
      obtain ⟨hrl, hrb⟩ := rws_mem F.p hmr
      have e1 : L.take (j + 1) = L.take j ++ [r] := by rw [List.take_add_one, hr]; rfl
      have hlen : (((L.take (j + 1)).flatMap fun r => ((List.range n).filter fun v => gs n vs m eqs (r ++ [v])).map fun v => r ++ [v]).map dL).length ≤ 16777216 := by
        have hj : j + 1 ≤ L.length := (List.getElem?_eq_some_iff.mp hr).1
        have e2 : ∀ l : List (List Nat), (l.flatMap fun r => ((List.range n).filter fun v => gs n vs m eqs (r ++ [v])).map fun v => r ++ [v]).length ≤ l.length * n := by
          intro l
          induction l with
          | nil => simp
          | cons a l ih =>
            rw [List.flatMap_cons, List.length_append, List.length_map, List.length_cons, Nat.succ_mul]
            have := List.length_filter_le (fun v => gs n vs m eqs (a ++ [v])) (List.range n)
            rw [List.length_range] at this
            omega
        have e3 := e2 (L.take (j + 1))
        have e4 : L.length ≤ n ^ i := by
          rw [← hL, ← rws_len n i]; exact List.length_filter_le _ _
        have e5 : (L.take (j + 1)).length * n ≤ n ^ i * n := Nat.mul_le_mul_right n (by rw [List.length_take]; omega)
        rw [Nat.pow_succ] at hp1
        rw [List.length_map]
        omega
      rw [e1, List.flatMap_append, List.map_append] at hlen ⊢
      generalize ((L.take j).flatMap fun r => ((List.range n).filter fun v => gs n vs m eqs (r ++ [v])).map fun v => r ++ [v]).map dL = zs at *
      have e3 : (([r].flatMap fun r => ((List.range n).filter fun v => gs n vs m eqs (r ++ [v])).map fun v => r ++ [v]).map dL) = ((List.range n).filter fun v => gs n vs m eqs (r ++ [v])).map fun v => dL (r ++ [v]) := by simp
      rw [e3] at hlen ⊢
      simp only [tg_nm, retE_s, List.set_cons_succ, List.set_cons_zero, s_seq, s_mut, s_skip, get_sl, List.getElem?_cons_succ, List.getElem?_cons_zero, gFl_ow, k_ext, true_and]
      refine comp_if (hM _) (List.range n) (fun v => gs n vs m eqs (r ++ [v])) (fun v => .int (v : Nat)) (fun v => dL (r ++ [v])) ?_ ?_ ?_ ?_
      · simp only [x_cons, x_nil, x_rd, List.getElem?_cons_zero, List.getElem?_cons_succ, gSh_sh, okOs_cons, okOs_nil, okO_rd, true_and]
        exact it_rng n (by omega)
      · intro v hv
        have ha := add_dL (as := r) (v := v) (by omega)
        simp only [wipeE, List.set_cons_succ, List.set_cons_zero, tg_nm, retE_s, x_v, x_un, x_cl, x_cons, x_nil, x_rd, x_op, x_lst, List.getElem?_cons_zero, List.getElem?_cons_succ, gSh_sh, okO_rd, true_and, ha, retD_s]
        refine stopped_ok F (row := r ++ [v]) (by simp; omega) k _ ?_
        simp only [u_isN, retD_s, t_b, retB_s]
        rw [stp_none]
        refine ⟨rfl, ?_⟩
        cases gs n vs m eqs (r ++ [v]) <;> simp [backE]
      · show (List.range n).length ≤ 16777216
        rw [List.length_range]; omega
      · rw [List.length_append] at hlen
        simp only [okO_comp, true_and, gOw_ow, List.getElem?_cons_zero, List.getElem?_cons_succ]
        rw [m_ext hlen]
        exact ⟨_, rfl⟩
    · rintro ε' ⟨c, rfl⟩
      rw [List.take_of_length_le (by simp)]
      simp [frzE]
  · rintro ε' ⟨a, b, c, d, rfl, rfl⟩
    rw [List.length_map, List.length_range]
    simp
    exact q
end
end Ev.K52
namespace Ev
open PySem PySem.Spec PyProof.Rows L2
section
variable {Φ : Tab} (hΦ : Φ.Mono)
include hΦ
/-- a list comprehension over what a draw tells -/
theorem comp_relP {vs : List Nat} {t : Tg} {k : Ik} {its : Cs} {cond : T} {elt : C} {ε : Env} {Q : PyData → Env → Prop} (X : List PyData → Prop) (R : PyData → Option PyData → Prop) (h0 : evs Φ its ε fun ds ε' => ε' = ε ∧ okOs its ds ε ∧ ∃ xs, itS k ds = some xs ∧ X xs)
    (hb : ∀ xs, X xs → ∀ d, d ∈ xs → retE (tgS t d (wipeE ε vs)) fun ε1 => evT Φ cond ε1 fun b ε2 => if b = true then ev Φ elt ε2 fun y ε3 => backE ε ε3 vs = ε ∧ R d (some y) else backE ε ε2 vs = ε ∧ R d none) (hl : ∀ xs, X xs → xs.length ≤ LIM) (hQ : ∀ xs ys, X xs → Chn R xs ys → Q (.list ys) ε) :
    ev Φ (.comp vs t k its cond elt) ε Q := by
  simp only [ev]
  refine evs_mono hΦ its ε (fun ds ε' ⟨e1, e2, xs, e3, hX⟩ => ?_) h0
  subst e1
  refine ⟨e2, ?_⟩
  rw [e3]
  refine compL_rel (R := R) (fun d ε0 q q' hq h => ?_) (fun d hd => ?_) (by simpa using hl xs hX) (fun ys c => by simpa using hQ xs ys hX c)
  · split at h
    · refine evT_mono hΦ cond _ (fun b ε2 h => ?_) h
      cases b with
      | true =>
        rw [if_pos rfl] at h ⊢
        exact ev_mono hΦ elt _ (fun y ε3 h => hq _ _ h) h
      | false => exact hq _ _ h
    · exact h
  · have h := hb xs hX d hd
    cases e : tgS t d (wipeE ε' vs) with
    | none => rw [e] at h; exact h.elim
    | some ε1 =>
      rw [e] at h
      refine evT_mono hΦ cond _ (fun b ε2 h => ?_) h
      cases b with
      | true =>
        rw [if_pos rfl] at h ⊢
        exact ev_mono hΦ elt _ (fun y ε3 h => h) h
      | false => exact h
end
theorem chn_all {S : PyData → Prop} : ∀ {xs ys : List PyData}, Chn (fun _ r => ∃ y, r = some y ∧ S y) xs ys → ys.length = xs.length ∧ ∀ y, y ∈ ys → S y
  | _, _, .nil => ⟨rfl, fun y h => by cases h⟩
  | _, _, .yes ⟨_, e, s⟩ c => by
    cases e
    obtain ⟨h1, h2⟩ := chn_all c
    exact ⟨by simp [h1], fun y h => (List.mem_cons.mp h).elim (fun e => e ▸ s) (h2 y)⟩
  | _, _, .no ⟨_, e, _⟩ _ => by cases e
def frB : S → S
  | .fr _ _ _ b => b
  | s => s
theorem tuprng_ok (m : Nat) (h : m ≤ 16777216) : fnS .tuprng [.int (m : Nat)] = some (dR (List.range m)) := by
  show (if lrOk (m : Int) then some (PyData.tuple ((List.range (m : Int).toNat).map fun (i : Nat) => .int i)) else none) = _
  rw [if_pos (show lrOk (m : Int) from ⟨by omega, by omega⟩), Int.toNat_natCast]
  rfl
theorem sh5 {c N : Nat} : c / Nat.gcd c N * N = N / Nat.gcd c N * c := by
  obtain ⟨a, ha⟩ := Nat.gcd_dvd_left c N
  obtain ⟨b, hb⟩ := Nat.gcd_dvd_right c N
  generalize Nat.gcd c N = g at *
  by_cases h : g = 0
  · subst h; simp at ha hb; subst ha hb; rfl
  · have hg : 0 < g := by omega
    subst ha hb
    rw [Nat.mul_div_cancel_left _ hg, Nat.mul_div_cancel_left _ hg]
    simp only [Nat.mul_comm, Nat.mul_left_comm]
end Ev
namespace Ev.K52
open PySem PySem.Spec PyProof.Rows L2 Ev
variable {n m : Nat} {vs : List Nat} {eqs : List EQ2}
abbrev R (n m : Nat) : List (List Nat) := rws n m
abbrev RD (n m : Nat) : PyData := .list ((R n m).map dL)
abbrev B (n : Nat) (vs : List Nat) (m : Nat) (eqs : List EQ2) (rest : Env) : Env := .un :: .sh stD :: .sh (alg1 n vs).d :: .sh (.int (m : Nat)) :: .sh (.list (eqs.map dE)) :: rest
abbrev gl (n : Nat) (vs : List Nat) (m : Nat) (es : List EQ2) : List (List Nat) := (R n m).filter fun as => es.all (ok1 n vs as)
theorem st0 : exS (Phi GT 60) (hdS (drS 0 c_law)) (U :: .sh stD :: dU 16) (toI fun ε => ∃ n vs m, (0 < n ∧ n ≤ 3 ∧ full n vs ∧ 0 < m ∧ m ≤ 3) ∧ ε = U :: .sh stD :: .sh (alg1 n vs).d :: .sh (.int (m : Nat)) :: dU 14) := by
  simp only [c_law, drS, tlS, hdS, s_asgT, x_tup, x_cons, x_cl, x_rd, x_op, x_int, x_nil, dU]
  simp only [List.getElem?_cons_zero, List.getElem?_cons_succ, gSh_sh, okO_int, true_and]
  refine take_ok (k := 59) hT 3 (by omega) (by omega) fun a ha => ?_
  simp only [o_add, retD_s]
  refine algebra_ok (k := 58) mG hT rfl rfl (1 + a) (by omega) (by omega) fun vs f1 => ?_
  refine take_ok (k := 59) hT 3 (by omega) (by omega) fun b hb => ?_
  simp only [o_add, retD_s, tg_tp, tgs_nm, tgs_nil, retE_s]
  exact ⟨1 + a, vs, 1 + b, ⟨by omega, by omega, f1, by omega, by omega⟩, rfl⟩
theorem st1 (h0 : 0 < m) (hm : m ≤ 3) {x : PyData} : exS (Phi GT 60) (hdS (drS 1 c_law)) (U :: .sh stD :: .sh x :: .sh (.int (m : Nat)) :: dU 14) (toI fun ε => ∃ eqs : List EQ2, (eqs.length ≤ 3 ∧ ∀ e, e ∈ eqs → TmM m 2 e.1 ∧ TmM m 2 e.2) ∧ ε = U :: .sh stD :: .sh x :: .sh (.int (m : Nat)) :: .sh (.list (eqs.map dE)) :: dU 13) := by
  simp only [c_law, drS, tlS, hdS, s_asg]
  refine comp_relP (hM 60) (fun xs => xs.length ≤ 3) (fun _ r => ∃ y, r = some y ∧ ∃ e : EQ2, y = dE e ∧ TmM m 2 e.1 ∧ TmM m 2 e.2) ?_ ?_ ?_ ?_
  · simp only [dU, List.replicate_succ, List.replicate_zero, x_cons, x_nil, x_cl, x_rd, x_int, List.getElem?_cons_zero, List.getElem?_cons_succ, gSh_sh]
    refine take_ok (k := 59) hT 4 (by omega) (by omega) fun r hr => ⟨by simp, by simp, _, it_rng r (by omega), by simp; omega⟩
  · intro xs hX d hd
    simp only [dU, List.replicate_succ, List.replicate_zero, wipeE, List.set_cons_succ, List.set_cons_zero, tg_nm, retE_s, x_yes, if_true, x_tup, x_cons, x_nil, x_cl, x_rd, x_int, List.getElem?_cons_zero, List.getElem?_cons_succ, gSh_sh]
    refine term_ok hT rfl rfl m h0 (by omega) 2 56 _ (by omega) fun l hl => ?_
    refine term_ok hT rfl rfl m h0 (by omega) 2 56 _ (by omega) fun r hr => ?_
    exact ⟨by simp [backE], _, rfl, (l, r), rfl, hl, hr⟩
  · intro xs hX
    exact Nat.le_trans hX (by decide)
  · intro xs ys hX c
    obtain ⟨h1, h2⟩ := chn_all c
    have h : ∀ (zs : List PyData), (∀ z, z ∈ zs → ∃ e : EQ2, z = dE e ∧ TmM m 2 e.1 ∧ TmM m 2 e.2) → ∃ es : List EQ2, zs = es.map dE ∧ ∀ e, e ∈ es → TmM m 2 e.1 ∧ TmM m 2 e.2 := by
      intro zs
      induction zs with
      | nil => intro _; exact ⟨[], rfl, fun x h => by cases h⟩
      | cons z zs ih =>
        intro h
        obtain ⟨e, rfl, he⟩ := h z List.mem_cons_self
        obtain ⟨es, rfl, hv⟩ := ih fun y hy => h y (List.mem_cons_of_mem _ hy)
        exact ⟨e :: es, rfl, fun x hx => (List.mem_cons.mp hx).elim (fun e => e ▸ he) (hv x)⟩
    obtain ⟨es, rfl, he⟩ := h ys h2
    rw [List.length_map] at h1
    exact ⟨es, ⟨by rw [h1]; exact hX, he⟩, rfl⟩
theorem st2 (F : Hc n vs m eqs) : exS (Phi GT 60) (hdS (drS 2 c_law)) (B n vs m eqs (dU 13)) (toE (B n vs m eqs (.sh (RD n m) :: dU 12))) := by
  have hu := F.u; have hm := F.mu
  simp only [c_law, drS, tlS, hdS, B, dU, List.replicate_succ, List.replicate_zero]
  generalize eqs.map dE = ED
  simp [Alg.d]
  refine largs_ok (k := 59) mG rfl rfl n m F.p (by omega) (by omega) (Nat.le_trans (pw3 hu hm) (by decide)) ?_
  rfl
theorem st3 {rd : PyData} : exS (Phi GT 60) (hdS (drS 3 c_law)) (B n vs m eqs (.sh rd :: dU 12)) (toE (B n vs m eqs (.sh rd :: .sh rd :: dU 11))) := by
  simp only [c_law, drS, tlS, hdS, B, dU, List.replicate_succ, List.replicate_zero, s_asg, x_rd, List.getElem?_cons_zero, List.getElem?_cons_succ, gSh_sh, List.set_cons_succ, List.set_cons_zero]
/-! ### the loop over the equations -/
theorem one (F : Hc n vs m eqs) {e : EQ2} (he : e ∈ eqs) : Hc n vs m [e] := ⟨F.p, F.u, F.f, F.m0, F.mu, fun e' h => by rw [List.mem_singleton] at h; subst h; exact F.e e' he, by simp⟩
theorem all1 {e : EQ2} : (fun as => ([e] : List EQ2).all (ok1 n vs as)) = fun as => ok1 n vs as e := by funext as; simp
abbrev b4 : S := frB (hdS (drS 4 c_law))
/-- inside the loop -/
abbrev L (n : Nat) (vs : List Nat) (m : Nat) (eqs : List EQ2) (g : PyData) (e : EQ2) (t l : Sl) (rest : Env) : Env := B n vs m eqs (.sh (RD n m) :: .sh g :: .sh e.1.d :: .sh e.2.d :: t :: l :: rest)
theorem lv60 (F : Hc n vs m eqs) {t : Tm} (ht : TmM m 2 t) {as : List Nat} (ha : as ∈ rws n m) {Q : PyData → Prop} (q : Q (.int (vf n vs t as : Nat))) : Phi GT 60 27 [(alg1 n vs).d, t.d, dL as] Q := by
  have hu := F.u
  obtain ⟨h1, h2⟩ := rws_mem F.p ha
  exact lval_ok (G := GT) rfl rfl (show n < 1073741824 by omega) F.f h1 h2 (dL as) at_lst 2 57 t Q ht q
theorem rlim (F : Hc n vs m eqs) : (R n m).length ≤ 27 := by rw [rws_len]; exact pw3 F.u F.mu
/-- [list(args) for args in solutions(..)] -/
theorem sol_list (F : Hc n vs m eqs) {es : List EQ2} (G : Hc n vs m es) {Q : PyData → Prop} (q : Q (.list ((gl n vs m es).map dR))) : Phi GT 60 15 [(alg1 n vs).d, .list (es.map dE), .int (m : Nat)] Q := sols_ok G 54 Q q
theorem bt0 (F : Hc n vs m eqs) {e : EQ2} (he : e ∈ eqs) {g : PyData} {t l a b c d f : Sl} : exS (Phi GT 60) (hdS (drS 0 b4)) (L n vs m eqs g e t l [a, b, c, d, f, U, U]) (toE (L n vs m eqs g e t l [.sh (.list ((gl n vs m [e]).map dL)), b, c, d, f, U, U])) := by
  simp only [c_law, drS, tlS, hdS, b4, frB, s_asg]
  refine comp_by (hM 60) (gl n vs m [e]) dR dL ?_ ?_ ?_ ?_
  · simp only [L, B, x_cons, x_nil, x_cl, x_rd, x_lst, x_tup, List.getElem?_cons_zero, List.getElem?_cons_succ, gSh_sh]
    refine sol_list F (one F he) ?_
    simp
  · intro as ha
    simp only [L, B, wipeE, List.set_cons_succ, List.set_cons_zero, tg_nm, retE_s]
    generalize eqs.map dE = ED
    generalize RD n m = RR
    simp [backE]
  · exact Nat.le_trans (List.length_filter_le _ _) (Nat.le_trans (rlim F) (by decide))
  · simp only [L, B, List.set_cons_succ, List.set_cons_zero]
theorem bt1 (F : Hc n vs m eqs) {e : EQ2} (he : e ∈ eqs) {g : PyData} {t l b c d f : Sl} : exS (Phi GT 60) (hdS (drS 1 b4)) (L n vs m eqs g e t l [.sh (.list ((gl n vs m [e]).map dL)), b, c, d, f, U, U]) (toE (L n vs m eqs g e t l [.sh (.list ((gl n vs m [e]).map dL)), b, c, d, f, U, U])) := by
  obtain ⟨t1, t2⟩ := F.e e he
  simp only [c_law, drS, tlS, hdS, b4, frB, s_ifs, x_v, x_op, x_rd, L, B, List.getElem?_cons_zero, List.getElem?_cons_succ, gSh_sh]
  refine comp_if (hM 60) (R n m) (fun as => ok1 n vs as e) dL dL ?_ ?_ ?_ ?_
  · simp only [x_cons, x_nil, x_rd, List.getElem?_cons_zero, List.getElem?_cons_succ, gSh_sh]
    generalize eqs.map dE = ED
    simp
  · intro as ha
    simp only [wipeE, List.set_cons_succ, List.set_cons_zero, tg_nm, retE_s]
    simp only [x_v, x_op, x_cl, x_cons, x_nil, x_rd, List.getElem?_cons_zero, List.getElem?_cons_succ, gSh_sh]
    refine lv60 F t1 ha ?_
    refine lv60 F t2 ha ?_
    generalize eqs.map dE = ED
    generalize (gl n vs m [e]).map dL = GG
    generalize RD n m = RR
    by_cases h : vf n vs e.1 as = vf n vs e.2 as <;> simp [backE, ok1, h]
  · exact Nat.le_trans (rlim F) (by decide)
  · rw [show (R n m).filter (fun as => ok1 n vs as e) = gl n vs m [e] from (congrArg (fun p => List.filter p (R n m)) all1).symm, ne_LL]
    simp
end Ev.K52
namespace Ev.K52
open PySem PySem.Spec PyProof.Rows L2 Ev
variable {n m : Nat} {vs : List Nat} {eqs : List EQ2}
abbrev cN (n : Nat) (vs : List Nat) (m : Nat) (e : EQ2) : Nat := (gl n vs m [e]).length
theorem cN_eq {e : EQ2} : ((rws n m).filter fun as => decide (vf n vs e.1 as = vf n vs e.2 as)).length = cN n vs m e := by
  unfold cN gl
  rw [all1]; rfl
theorem cN_le (F : Hc n vs m eqs) {e : EQ2} : cN n vs m e ≤ 27 := Nat.le_trans (List.length_filter_le _ _) (rlim F)
theorem bt2 (F : Hc n vs m eqs) {e : EQ2} (he : e ∈ eqs) {g : PyData} {t l b c d f : Sl} {mi : PyData} : exS (Phi GT 60) (hdS (drS 2 b4)) (L n vs m eqs g e t l [.sh mi, b, c, d, f, U, U]) (toE (L n vs m eqs g e t l [.sh mi, .sh (.int (cN n vs m e / Nat.gcd (cN n vs m e) (n ^ m) : Nat)), .sh (.int (n ^ m / Nat.gcd (cN n vs m e) (n ^ m) : Nat)), d, f, U, U])) := by
  have hu := F.u; have hm := F.mu
  obtain ⟨t1, t2⟩ := F.e e he
  simp only [c_law, drS, tlS, hdS, b4, frB, s_asgT, x_cl, x_cons, x_rd, x_tup, x_nil]
  simp only [L, B, List.getElem?_cons_zero, List.getElem?_cons_succ, gSh_sh]
  refine share_ok (k := 55) cG (alg1 n vs) e.1 e.2 m (vf n vs e.1) (vf n vs e.2) (wf1 _ _) F.p (show n < 1073741824 by omega) (by omega) (Nat.le_trans (pw3 hu hm) (by decide)) (tz t1 (by omega)) (tz t2 (by omega)) (fun as ha => (vf_ok F.p F.f t1 as ha).1) (fun as ha => (vf_ok F.p F.f t2 as ha).1) ?_
  show retE (tgS _ (redD ((rws n m).filter fun as => decide (vf n vs e.1 as = vf n vs e.2 as)).length (n ^ m)) _) _
  rw [cN_eq, red_pos (Nat.pow_pos F.p)]
  simp only [tg_tp, tgs_nm, tgs_nil, retE_s]
  rfl
theorem bt3 (F : Hc n vs m eqs) {e : EQ2} (he : e ∈ eqs) {g : PyData} {t l d f : Sl} : exS (Phi GT 60) (hdS (drS 3 b4)) (L n vs m eqs g e t l [.sh (.list ((gl n vs m [e]).map dL)), .sh (.int (cN n vs m e / Nat.gcd (cN n vs m e) (n ^ m) : Nat)), .sh (.int (n ^ m / Nat.gcd (cN n vs m e) (n ^ m) : Nat)), d, f, U, U]) (toE (L n vs m eqs g e t l [.sh (.list ((gl n vs m [e]).map dL)), .sh (.int (cN n vs m e / Nat.gcd (cN n vs m e) (n ^ m) : Nat)), .sh (.int (n ^ m / Nat.gcd (cN n vs m e) (n ^ m) : Nat)), d, f, U, U])) := by
  have hu := F.u; have hm := F.mu
  have b1 := pw3 hu hm
  have b2 := cN_le F (e := e)
  have key := sh5 (c := cN n vs m e) (N := n ^ m)
  have e1 : ((R n m).map dL).length = n ^ m := by rw [List.length_map]; exact rws_len ..
  have e2 : ((gl n vs m [e]).map dL).length = cN n vs m e := by rw [List.length_map]
  simp only [c_law, drS, tlS, hdS, b4, frB, L, B, RD]
  generalize cN n vs m e = c at *
  generalize n ^ m = N at *
  generalize c / Nat.gcd c N = x at *
  generalize N / Nat.gcd c N = y at *
  generalize (R n m).map dL = RR at *
  generalize (gl n vs m [e]).map dL = GD at *
  generalize eqs.map dE = ED
  simp [e1, e2, o_mulN (show N < 4611686018427387904 by omega), o_mulN (show c < 4611686018427387904 by omega), key]
/-- good, filtered -/
theorem bt4 (F : Hc n vs m eqs) {e : EQ2} {es : List EQ2} {t l b c d f : Sl} : exS (Phi GT 60) (hdS (drS 4 b4)) (L n vs m eqs (.list ((gl n vs m es).map dL)) e t l [.sh (.list ((gl n vs m [e]).map dL)), b, c, d, f, U, U]) (toE (L n vs m eqs (.list ((gl n vs m (es ++ [e])).map dL)) e t l [.sh (.list ((gl n vs m [e]).map dL)), b, c, d, f, U, U])) := by
  simp only [c_law, drS, tlS, hdS, b4, frB, s_asg]
  refine comp_if (hM 60) (gl n vs m es) (fun as => ok1 n vs as e) dL dL ?_ ?_ ?_ ?_
  · simp only [L, B, x_cons, x_nil, x_rd, List.getElem?_cons_zero, List.getElem?_cons_succ, gSh_sh]
    generalize eqs.map dE = ED
    simp
  · intro as ha
    have hin := in_dL as (gl n vs m [e])
    have hd : decide (as ∈ gl n vs m [e]) = ok1 n vs as e := by
      have hr := (List.mem_filter.mp ha).1
      cases h : ok1 n vs as e with
      | true => exact decide_eq_true (List.mem_filter.mpr ⟨hr, by simp [h]⟩)
      | false => exact decide_eq_false fun z => by simpa [h] using (List.mem_filter.mp z).2
    rw [hd] at hin
    simp only [L, B, wipeE, List.set_cons_succ, List.set_cons_zero, tg_nm, retE_s]
    generalize eqs.map dE = ED
    generalize (gl n vs m [e]).map dL = GD at *
    generalize (gl n vs m es).map dL = GE at *
    generalize RD n m = RR
    simp only [x_v, x_op, x_rd, List.getElem?_cons_zero, List.getElem?_cons_succ, gSh_sh, okO_rd, true_and, hin, retD_s, t_b, retB_s]
    cases ok1 n vs as e <;> simp [backE]
  · exact Nat.le_trans (List.length_filter_le _ _) (Nat.le_trans (rlim F) (by decide))
  · simp only [L, B, List.set_cons_succ, List.set_cons_zero]
    have h : (gl n vs m es).filter (fun as => ok1 n vs as e) = gl n vs m (es ++ [e]) := by
      rw [List.filter_filter]
      congr 1
      funext as
      simp [Bool.and_comm]
    rw [h]
abbrev tbl (n : Nat) (vs : List Nat) (m : Nat) (t : Tm) : List Nat := (rws n m).map (vf n vs t)
theorem bt5 (F : Hc n vs m eqs) {e : EQ2} (he : e ∈ eqs) {g mi : PyData} {t l b c d f : Sl} : exS (Phi GT 60) (hdS (drS 5 b4)) (L n vs m eqs g e t l [.sh mi, b, c, d, f, U, U]) (toE (L n vs m eqs g e t l [.sh mi, b, c, .sh (.list [.tuple (dI (tbl n vs m e.1)), .tuple (dI (tbl n vs m e.2))]), f, U, U])) := by
  have hu := F.u; have hm := F.mu
  obtain ⟨t1, t2⟩ := F.e e he
  have z1 := tz t1 (k := 56) (by omega)
  have z2 := tz t2 (k := 56) (by omega)
  simp only [c_law, drS, tlS, hdS, b4, frB, s_asg, x_lst, x_cl, x_cons, x_rd, x_nil]
  simp only [L, B, List.getElem?_cons_zero, List.getElem?_cons_succ, gSh_sh]
  refine table_ok (k := 56) cG (alg1 n vs) e.1 m (vf n vs e.1) (wf1 _ _) F.p (show n < 1073741824 by omega) (by omega) (Nat.le_trans (pw3 hu hm) (by decide)) z1.1 (by omega) (fun as ha => (vf_ok F.p F.f t1 as ha).1) ?_
  refine table_ok (k := 56) cG (alg1 n vs) e.2 m (vf n vs e.2) (wf1 _ _) F.p (show n < 1073741824 by omega) (by omega) (Nat.le_trans (pw3 hu hm) (by decide)) z2.1 (by omega) (fun as ha => (vf_ok F.p F.f t2 as ha).1) ?_
  rfl
theorem zip_idx (Rr : List (List Nat)) : (List.range Rr.length).map (fun (i : Nat) => PyData.int (i : Nat)) = Rr.zipIdx.map fun p => PyData.int (p.2 : Nat) := by
  have h := congrArg (List.map fun i : Nat => PyData.int (i : Nat)) (List.zipIdx_map_snd 0 Rr)
  rw [List.map_map] at h
  rw [List.range_eq_range']
  exact h.symm
theorem zip_filt (p : List Nat → Bool) (Rr : List (List Nat)) : ((Rr.zipIdx.filter fun q => p q.1).map fun q => dL q.1) = (Rr.filter p).map dL := by
  have h : Rr = Rr.zipIdx.map fun q => q.1 := (List.zipIdx_map_fst 0 Rr).symm
  conv => rhs; rw [h]
  rw [List.filter_map, List.map_map]
  rfl
theorem bt6 (F : Hc n vs m eqs) {e : EQ2} (he : e ∈ eqs) {g : PyData} {t l b c f : Sl} : exS (Phi GT 60) (hdS (drS 6 b4)) (L n vs m eqs g e t l [.sh (.list ((gl n vs m [e]).map dL)), b, c, .sh (.list [.tuple (dI (tbl n vs m e.1)), .tuple (dI (tbl n vs m e.2))]), f, U, U]) (toE (L n vs m eqs g e t l [.sh (.list ((gl n vs m [e]).map dL)), b, c, .sh (.list [.tuple (dI (tbl n vs m e.1)), .tuple (dI (tbl n vs m e.2))]), f, U, U])) := by
  simp only [c_law, drS, tlS, hdS, b4, frB, s_ifs, x_v, x_op]
  refine comp_if (hM 60) (R n m).zipIdx (fun p => ok1 n vs p.1 e) (fun p => .int (p.2 : Nat)) (fun p => dL p.1) ?_ ?_ ?_ ?_
  · simp only [L, B, RD, x_cons, x_nil, x_bi, x_rd, List.getElem?_cons_zero, List.getElem?_cons_succ, gSh_sh, okOs_cons, okOs_nil, okO_rd, okO_bi, true_and, f_len, retD_s, List.length_map]
    rw [← zip_idx]
    exact it_rng _ (by have := rlim F; omega)
  · rintro ⟨as, i⟩ ha
    have hi : (R n m)[i]? = some as := by
      have := List.mk_mem_zipIdx_iff_getElem?.mp ha
      simpa using this
    have h1 : (tbl n vs m e.1)[i]? = some (vf n vs e.1 as) := by rw [List.getElem?_map, hi]; rfl
    have h2 : (tbl n vs m e.2)[i]? = some (vf n vs e.2 as) := by rw [List.getElem?_map, hi]; rfl
    have h3 : atI ((R n m).map dL) (i : Int) = some (dL as) := atN (by rw [List.getElem?_map, hi]; rfl)
    have h4 : atI (dI (tbl n vs m e.1)) (i : Int) = some (.int (vf n vs e.1 as : Nat)) := atN (by rw [dI_get, h1]; rfl)
    have h5 : atI (dI (tbl n vs m e.2)) (i : Int) = some (.int (vf n vs e.2 as : Nat)) := atN (by rw [dI_get, h2]; rfl)
    simp only [L, B, RD, wipeE, List.set_cons_succ, List.set_cons_zero, tg_nm, retE_s]
    generalize eqs.map dE = ED
    generalize (gl n vs m [e]).map dL = GD at *
    generalize (R n m).map dL = RR at *
    generalize dI (tbl n vs m e.1) = T1 at *
    generalize dI (tbl n vs m e.2) = T2 at *
    simp only [x_v, x_op, x_idx, x_rd, x_int, List.getElem?_cons_zero, List.getElem?_cons_succ, gSh_sh, okO_rd, okO_idx, true_and, i_l, i_t, at0, at1, h3, h4, h5, retD_s, o_eqi, t_b, retB_s]
    by_cases h : vf n vs e.1 as = vf n vs e.2 as <;> simp [backE, ok1, h]
  · rw [List.length_zipIdx]; exact Nat.le_trans (rlim F) (by decide)
  · rw [show (((R n m).zipIdx.filter fun p => ok1 n vs p.1 e).map fun p => dL p.1) = _ from zip_filt (fun as => ok1 n vs as e) (R n m), show (R n m).filter (fun as => ok1 n vs as e) = gl n vs m [e] from (congrArg (fun p => List.filter p (R n m)) all1).symm]
    simp only [L, B, x_rd, List.getElem?_cons_zero, List.getElem?_cons_succ, gSh_sh, okO_comp, true_and]
    rw [ne_LL]
    simp
end Ev.K52
namespace Ev.K52
open PySem PySem.Spec PyProof.Rows L2 Ev
variable {n m : Nat} {vs : List Nat} {eqs : List EQ2}
theorem body4 (F : Hc n vs m eqs) {e : EQ2} (he : e ∈ eqs) {es : List EQ2} {t l a b c d f : Sl} {P : Po} (hP : ∀ a b c d f, P.nx (L n vs m eqs (.list ((gl n vs m (es ++ [e])).map dL)) e t l [a, b, c, d, f, U, U])) : exS (Phi GT 60) (drS 0 b4) (L n vs m eqs (.list ((gl n vs m es).map dL)) e t l [a, b, c, d, f, U, U]) P := by
  refine seq_e (hM 60) rfl (bt0 F he) ?_
  refine seq_e (hM 60) rfl (bt1 F he) ?_
  refine seq_e (hM 60) rfl (bt2 F he) ?_
  refine seq_e (hM 60) rfl (bt3 F he) ?_
  refine seq_e (hM 60) rfl (bt4 F) ?_
  refine seq_e (hM 60) rfl (bt5 F he) ?_
  refine seq_e (hM 60) rfl (bt6 F he) ?_
  show exS (Phi GT 60) S.skip _ P
  rw [s_skip]
  exact hP _ _ _ _ _
/-- behind the loop -/
abbrev L2e (n : Nat) (vs : List Nat) (m : Nat) (eqs : List EQ2) (g : PyData) (a b t l : Sl) (rest : Env) : Env := B n vs m eqs (.sh (RD n m) :: .sh g :: a :: b :: t :: l :: rest)
theorem st4 (F : Hc n vs m eqs) : exS (Phi GT 60) (hdS (drS 4 c_law)) (B n vs m eqs (.sh (RD n m) :: .sh (RD n m) :: dU 11)) (toI fun ε => ∃ a b c d f g h, ε = L2e n vs m eqs (.list ((gl n vs m eqs).map dL)) a b U U [c, d, f, g, h, U, U]) := by
  show exS (Phi GT 60) (.fr (.tp (.cons (.nm 7) (.cons (.nm 8) .nil))) .seq (.cons (.rd (.sl 4)) .nil) (drS 0 b4)) _ _
  refine fr_rule (hM 60) (eqs.map dE) (fun i ε => ∃ a b c d f g h, ε = L2e n vs m eqs (.list ((gl n vs m (eqs.take i)).map dL)) a b U U [c, d, f, g, h, U, U]) ?_ ?_ ?_
  · simp only [L2e, B, dU, List.replicate_succ, List.replicate_zero, x_cons, x_nil, x_rd, List.getElem?_cons_zero, List.getElem?_cons_succ, gSh_sh, it_seqL, true_and]
    rw [show gl n vs m (eqs.take 0) = R n m from by simp]
    exact ⟨U, U, U, U, U, U, U, rfl⟩
  · rintro i x ε' hx ⟨a, b, c, d, f, g, h, rfl⟩
    obtain ⟨e, he, rfl⟩ := map_some hx
    have hm := List.mem_of_getElem? he
    have e1 : eqs.take (i + 1) = eqs.take i ++ [e] := by rw [List.take_add_one, he]; rfl
    rw [e1]
    simp only [dE, tg_tp, tgs_nm, tgs_nil, retE_s]
    exact body4 F hm (es := eqs.take i) fun a b c d f => ⟨_, _, a, b, c, d, f, rfl⟩
  · rintro ε' ⟨a, b, c, d, f, g, h, rfl⟩
    rw [List.length_map, List.take_length]
    exact ⟨a, b, c, d, f, g, h, rfl⟩
theorem sol5 (F : Hc n vs m eqs) {a b t l c d f g h : Sl} : exS (Phi GT 60) (hdS (drS 5 c_law)) (L2e n vs m eqs (.list ((gl n vs m eqs).map dL)) a b t l [c, d, f, g, h, U, U]) (toE (L2e n vs m eqs (.list ((gl n vs m eqs).map dL)) a b t l [c, d, f, g, h, U, U])) := by
  simp only [c_law, drS, tlS, hdS, s_ifs, x_v, x_op]
  refine comp_by (hM 60) (gl n vs m eqs) dR dL ?_ ?_ ?_ ?_
  · simp only [L2e, B, x_cons, x_nil, x_cl, x_rd, x_lst, x_tup, List.getElem?_cons_zero, List.getElem?_cons_succ, gSh_sh]
    refine sol_list F F ?_
    simp
  · intro as ha
    simp only [L2e, B, wipeE, List.set_cons_succ, List.set_cons_zero, tg_nm, retE_s]
    generalize eqs.map dE = ED
    generalize RD n m = RR
    simp [backE]
  · exact Nat.le_trans (List.length_filter_le _ _) (Nat.le_trans (rlim F) (by decide))
  · simp only [L2e, B, x_rd, List.getElem?_cons_zero, List.getElem?_cons_succ, gSh_sh, okO_comp, true_and]
    rw [ne_LL]
    simp
theorem told_gl (F : Hc n vs m eqs) : fnd n vs eqs m [] = (gl n vs m eqs).head? := by
  rw [fnd_top F, ← List.head?_filter]
  congr 1
  exact List.filter_congr fun as ha => gk_full F (rws_mem F.p ha).1
theorem st6 (F : Hc n vs m eqs) {g : PyData} {a b l : Sl} {rest : Env} : exS (Phi GT 60) (hdS (drS 6 c_law)) (L2e n vs m eqs g a b U l rest) (toE (L2e n vs m eqs g a b (.sh (told n vs eqs m)) l rest)) := by
  have hm := F.mu
  simp only [c_law, drS, tlS, hdS, s_asg, L2e, B, x_cl, x_cons, x_nil, x_rd, List.getElem?_cons_zero, List.getElem?_cons_succ, gSh_sh]
  have S := fun Q q => solve_ok F (52 - m) Q q
  rw [show 52 - m + 8 + m = 60 by omega] at S
  refine S _ ?_
  simp only [List.set_cons_succ, List.set_cons_zero]
theorem st7 (F : Hc n vs m eqs) {a b l : Sl} {rest : Env} : exS (Phi GT 60) (hdS (drS 7 c_law)) (L2e n vs m eqs (.list ((gl n vs m eqs).map dL)) a b (.sh (told n vs eqs m)) l rest) (toE (L2e n vs m eqs (.list ((gl n vs m eqs).map dL)) a b (.sh (told n vs eqs m)) l rest)) := by
  have hm := F.mu
  have S := fun Q q => sfault_ok F (52 - m) Q q
  rw [show 52 - m + 8 + m = 60 by omega] at S
  simp only [c_law, drS, tlS, hdS, s_ifs, L2e, B, x_tor, x_v, x_un, x_cl, x_cons, x_nil, x_rd, List.getElem?_cons_zero, List.getElem?_cons_succ, gSh_sh]
  refine S _ ?_
  simp only [u_notN, retD_s, t_b, retB_s, isNoneD, Bool.not_true, Bool.false_eq_true, if_false]
  have ht := told_gl F
  unfold told
  rw [ht]
  cases hg : gl n vs m eqs with
  | nil => simp [eNL, o_neb]
  | cons r rs => simp [eLL, o_neb]
theorem st8 (F : Hc n vs m eqs) {a b l : Sl} {rest : Env} : exS (Phi GT 60) (hdS (drS 8 c_law)) (L2e n vs m eqs (.list ((gl n vs m eqs).map dL)) a b (.sh (told n vs eqs m)) l rest) (toE (L2e n vs m eqs (.list ((gl n vs m eqs).map dL)) a b (.sh (told n vs eqs m)) l rest)) := by
  have ht := told_gl F
  simp only [c_law, drS, tlS, hdS, L2e, B, told]
  rw [ht]
  cases hg : gl n vs m eqs with
  | nil =>
    generalize eqs.map dE = ED
    generalize RD n m = RR
    simp [eNL]
  | cons r rs =>
    have e : op2 .ne (dL r) (dL r) = some (.bool false) := by
      rw [o_ne ((shp_dL r).ok (by omega)) ((shp_dL r).ok (by omega)), eqv_dL]; simp
    generalize eqs.map dE = ED
    generalize RD n m = RR
    simp [eLL, e]
theorem st9 {g : PyData} {a b t : Sl} {rest : Env} : exS (Phi GT 60) (hdS (drS 9 c_law)) (L2e n vs m eqs g a b t U rest) (toE (L2e n vs m eqs g a b t (.ow (.list [])) rest)) := by
  simp only [c_law, drS, tlS, hdS, L2e, B, s_asgO, x_lst, x_nil, List.set_cons_succ, List.set_cons_zero]
theorem st10 (F : Hc n vs m eqs) {g : PyData} {a b t : Sl} {c d f k h : Sl} : exS (Phi GT 60) (hdS (drS 10 c_law)) (L2e n vs m eqs g a b t (.ow (.list [])) [c, d, f, k, h, U, U]) (toI fun ε => ∃ a b h, ε = L2e n vs m eqs g a b t (.ow (.list (eqs.map (dLim n vs m)))) [c, d, f, k, h, U, U]) := by
  have hm := F.mu
  simp only [c_law, drS, tlS, hdS]
  refine fr_rule (hM 60) (eqs.map dE) (fun i ε => ∃ a b h, ε = L2e n vs m eqs g a b t (.ow (.list ((eqs.take i).map (dLim n vs m)))) [c, d, f, k, h, U, U]) ?_ ?_ ?_
  · simp only [L2e, B, x_cons, x_nil, x_rd, List.getElem?_cons_zero, List.getElem?_cons_succ, gSh_sh, it_seqL, true_and]
    exact ⟨_, _, _, rfl⟩
  · rintro i x ε' hx ⟨a, b, h, rfl⟩
    obtain ⟨e, he, rfl⟩ := map_some hx
    have hmem := List.mem_of_getElem? he
    obtain ⟨t1, t2⟩ := F.e e hmem
    have e1 : eqs.take (i + 1) = eqs.take i ++ [e] := by rw [List.take_add_one, he]; rfl
    have hlen : ((eqs.take i).map (dLim n vs m)).length < 16777216 := by
      have := F.el
      rw [List.length_map, List.length_take]; omega
    rw [e1, List.map_append]
    generalize (eqs.take i).map (dLim n vs m) = zs at *
    simp only [L2e, B, dE, tg_tp, tgs_nm, tgs_nil, retE_s, List.set_cons_succ, List.set_cons_zero, s_seq, s_asg]
    refine comp_if (hM 60) (R n m) (fun as => ok1 n vs as e) dL dR ?_ ?_ ?_ ?_
    · simp only [x_cons, x_nil, x_rd, List.getElem?_cons_zero, List.getElem?_cons_succ, gSh_sh, okOs_cons, okOs_nil, okO_rd, true_and, it_seqL]
    · intro as ha
      simp only [wipeE, List.set_cons_succ, List.set_cons_zero, tg_nm, retE_s]
      simp only [x_v, x_op, x_cl, x_cons, x_nil, x_rd, List.getElem?_cons_zero, List.getElem?_cons_succ, gSh_sh]
      refine lv60 F t1 ha ?_
      refine lv60 F t2 ha ?_
      generalize (eqs.map fun e : EQ2 => PyData.tuple [e.1.d, e.2.d]) = ED
      generalize RD n m = RR
      by_cases h : vf n vs e.1 as = vf n vs e.2 as <;> simp [backE, ok1, h]
    · exact Nat.le_trans (rlim F) (by decide)
    · simp only [List.set_cons_succ, List.set_cons_zero, s_mut, s_skip, get_sl, List.getElem?_cons_zero, List.getElem?_cons_succ, gFl_ow, k_app, true_and, x_tup, x_cons, x_nil, x_bi, x_rd, gSh_sh, okOs_cons, okOs_nil, okO_rd, okO_tup]
      rw [tuprng_ok m (by omega)]
      simp only [retD_s, gOw_ow, List.getElem?_cons_zero, List.getElem?_cons_succ, true_and]
      rw [m_app hlen]
      exact ⟨_, _, _, rfl⟩
  · rintro ε' ⟨a, b, h, rfl⟩
    rw [List.length_map, List.take_length]
    exact ⟨a, b, h, rfl⟩
theorem st11 {g ls : PyData} {a b t : Sl} {rest : Env} : exS (Phi GT 60) (hdS (drS 11 c_law)) (L2e n vs m eqs g a b t (.ow ls) rest) (toE (L2e n vs m eqs g a b t (.sh ls) rest)) := by
  simp only [c_law, drS, tlS, hdS, L2e, B, s_frz, frzE, List.getElem?_cons_zero, List.getElem?_cons_succ, retE_s, List.set_cons_succ, List.set_cons_zero]
theorem st12 (F : Hc n vs m eqs) {a b t : Sl} {rest : Env} {P : Po} (hP : ∀ ε, P.rt (.bool true) ε) : exS (Phi GT 60) (drS 12 c_law) (L2e n vs m eqs (.list ((gl n vs m eqs).map dL)) a b t (.sh (.list (eqs.map (dLim n vs m)))) rest) P := by
  simp only [c_law, drS, tlS, hdS, L2e, B, s_seq, s_ret, x_op, x_cl, x_cons, x_nil, x_idx, x_rd, x_int, List.getElem?_cons_zero, List.getElem?_cons_succ, gSh_sh, okO_rd, true_and, Alg.d, i_t, at1, retD_s]
  refine allv_ok F 57 _ ?_
  simp only [okO_cl, true_and]
  rw [eq_LL]
  simp
  exact hP _
theorem mathT : lawG GT KK n_law.length c_law := by
  show exS (Phi GT 60) (drS 0 c_law) (U :: .sh stD :: dU 16) _
  refine seq_i (hM 60) _ rfl st0 ?_
  rintro _ ⟨n, vs, m, ⟨p, u, f, m0, mu⟩, rfl⟩
  refine seq_i (hM 60) _ rfl (st1 m0 mu) ?_
  rintro _ ⟨eqs, ⟨el, he⟩, rfl⟩
  have F : Hc n vs m eqs := ⟨p, u, f, m0, mu, he, el⟩
  refine seq_e (hM 60) rfl (st2 F) ?_
  refine seq_e (hM 60) rfl st3 ?_
  refine seq_i (hM 60) _ rfl (st4 F) ?_
  rintro _ ⟨a, b, c, d, f, g, h, rfl⟩
  refine seq_e (hM 60) rfl (sol5 F) ?_
  refine seq_e (hM 60) rfl (st6 F) ?_
  refine seq_e (hM 60) rfl (st7 F) ?_
  refine seq_e (hM 60) rfl (st8 F) ?_
  refine seq_e (hM 60) rfl st9 ?_
  refine seq_i (hM 60) _ rfl (st10 F) ?_
  rintro _ ⟨a, b, h, rfl⟩
  refine seq_e (hM 60) rfl st11 ?_
  exact st12 F fun ε => rfl
end Ev.K52
open PySem PySem.W PyProof.Rows
set_option maxHeartbeats 0 in
theorem PySem.Challenge.cw_tablewright_k52_solutions_and_shares_holds : PySem.Challenge.rw_tablewright_k52_solutions_and_shares.Holds := by
  w_on; o_law; k_head; (case hw => w_witness2)
  k_fill
  refine L2.walk_of (l := PySem.Challenge.rw_tablewright_k52_solutions_and_shares) (n := 63) (k := Ev.K52.KK + 1) (x := "script") (CX := fun _ => L2.CX0) (sp := fun w => Ev.spLaw _) rfl (by decide) rfl ⟨rfl, by decide, by decide⟩ (fun w h Y => PySem.W.kIn_of Y) ?F (fun _ _ a ns hl _ hS => ⟨a, ns, rfl, hS, hl, fun _ => rfl⟩) (fun _ _ _ _ _ h => h)
  case F =>
    intro w mg fa h KX G hmg
    refine' Ev.K52.all_mk Ev.K52.mathT KX G hmg ?l0 ?l1 ?l2 ?l3 ?l4 ?l5 ?l6 ?l7 ?l8 ?l9 ?l10 ?l11 ?l12 ?l13 ?l14 ?l15 ?l16 ?l17 ?l18 ?l19 ?l20 ?l21 ?l22 ?l23 ?l24 ?l25 ?l26 ?l27 ?l28 ?z0 ?z1 ?z2 ?z3 ?z4 ?z5 ?z6 ?z7 ?z8 ?z9 ?z10 ?z11
    (case l0 => refine' Ev.K52.Lk.mk ?a ?l ?c ?k; (case a => k_is); (case l => k_is); (case c => k_is); (case k => k_is))
    (case l1 => refine' Ev.K52.Lk.mk ?a ?l ?c ?k; (case a => k_is); (case l => k_is); (case c => k_is); (case k => k_is))
    (case l2 => refine' Ev.K52.Lk.mk ?a ?l ?c ?k; (case a => k_is); (case l => k_is); (case c => k_is); (case k => k_is))
    (case l3 => refine' Ev.K52.Lk.mk ?a ?l ?c ?k; (case a => k_is); (case l => k_is); (case c => k_is); (case k => k_is))
    (case l4 => refine' Ev.K52.Lk.mk ?a ?l ?c ?k; (case a => k_is); (case l => k_is); (case c => k_is); (case k => k_is))
    (case l5 => refine' Ev.K52.Lk.mk ?a ?l ?c ?k; (case a => k_is); (case l => k_is); (case c => k_is); (case k => k_is))
    (case l6 => refine' Ev.K52.Lk.mk ?a ?l ?c ?k; (case a => k_is); (case l => k_is); (case c => k_is); (case k => k_is))
    (case l7 => refine' Ev.K52.Lk.mk ?a ?l ?c ?k; (case a => k_is); (case l => k_is); (case c => k_is); (case k => k_is))
    (case l8 => refine' Ev.K52.Lk.mk ?a ?l ?c ?k; (case a => k_is); (case l => k_is); (case c => k_is); (case k => k_is))
    (case l9 => refine' Ev.K52.Lk.mk ?a ?l ?c ?k; (case a => k_is); (case l => k_is); (case c => k_is); (case k => k_is))
    (case l10 => refine' Ev.K52.Lk.mk ?a ?l ?c ?k; (case a => k_is); (case l => k_is); (case c => k_is); (case k => k_is))
    (case l11 => refine' Ev.K52.Lk.mk ?a ?l ?c ?k; (case a => k_is); (case l => k_is); (case c => k_is); (case k => k_is))
    (case l12 => refine' Ev.K52.Lk.mk ?a ?l ?c ?k; (case a => k_is); (case l => k_is); (case c => k_is); (case k => k_is))
    (case l13 => refine' Ev.K52.Lk.mk ?a ?l ?c ?k; (case a => k_is); (case l => k_is); (case c => k_is); (case k => k_is))
    (case l14 => refine' Ev.K52.Lk.mk ?a ?l ?c ?k; (case a => k_is); (case l => k_is); (case c => k_is); (case k => k_is))
    (case l15 => refine' Ev.K52.Lk.mk ?a ?l ?c ?k; (case a => k_is); (case l => k_is); (case c => k_is); (case k => k_is))
    (case l16 => refine' Ev.K52.Lk.mk ?a ?l ?c ?k; (case a => k_is); (case l => k_is); (case c => k_is); (case k => k_is))
    (case l17 => refine' Ev.K52.Lk.mk ?a ?l ?c ?k; (case a => k_is); (case l => k_is); (case c => k_is); (case k => k_is))
    (case l18 => refine' Ev.K52.Lk.mk ?a ?l ?c ?k; (case a => k_is); (case l => k_is); (case c => k_is); (case k => k_is))
    (case l19 => refine' Ev.K52.Lk.mk ?a ?l ?c ?k; (case a => k_is); (case l => k_is); (case c => k_is); (case k => k_is))
    (case l20 => refine' Ev.K52.Lk.mk ?a ?l ?c ?k; (case a => k_is); (case l => k_is); (case c => k_is); (case k => k_is))
    (case l21 => refine' Ev.K52.Lk.mk ?a ?l ?c ?k; (case a => k_is); (case l => k_is); (case c => k_is); (case k => k_is))
    (case l22 => refine' Ev.K52.Lk.mk ?a ?l ?c ?k; (case a => k_is); (case l => k_is); (case c => k_is); (case k => k_is))
    (case l23 => refine' Ev.K52.Lk.mk ?a ?l ?c ?k; (case a => k_is); (case l => k_is); (case c => k_is); (case k => k_is))
    (case l24 => refine' Ev.K52.Lk.mk ?a ?l ?c ?k; (case a => k_is); (case l => k_is); (case c => k_is); (case k => k_is))
    (case l25 => refine' Ev.K52.Lk.mk ?a ?l ?c ?k; (case a => k_is); (case l => k_is); (case c => k_is); (case k => k_is))
    (case l26 => refine' Ev.K52.Lk.mk ?a ?l ?c ?k; (case a => k_is); (case l => k_is); (case c => k_is); (case k => k_is))
    (case l27 => refine' Ev.K52.Lk.mk ?a ?l ?c ?k; (case a => k_is); (case l => k_is); (case c => k_is); (case k => k_is))
    (case l28 => refine' Ev.K52.Lk.mk ?a ?l ?c ?k; (case a => k_is); (case l => k_is); (case c => k_is); (case k => k_is))
    (case z0 => k_is)
    (case z1 => k_is)
    (case z2 => k_is)
    (case z3 => k_is)
    (case z4 => k_is)
    (case z5 => k_is)
    (case z6 => k_is)
    (case z7 => k_is)
    (case z8 => k_is)
    (case z9 => k_is)
    (case z10 => k_is)
    (case z11 => k_is)
