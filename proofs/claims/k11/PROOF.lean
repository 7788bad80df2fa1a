import PyProof.Rows.All
import Wide.All
import OpenK.AllK
import Wide.FinOn
import HandS.ForMost
import HandS.Exc
import HandS.ExcOwn
import HandS.WordsExc
import HandS.CallSlots
import HandS.Defaults
import HandS.Style
import HandS.TupAny
import HandS.Flow
import HandS.Text
import HandS.List
import HandS.IsInst
import HandS.More
import HandS.SortInts
import HandS.Iter
import KE.GoesMore
import KE.GoesEnum
import HandS.Comp
import HandS.TryMany
import HandS.ExcIs
import KE.KExcIs
import HandS.StrMore
import PySem.Challenge.RW_bornroots_k11_pages_and_full_books
set_option Elab.async false
set_option maxRecDepth 100000
set_option linter.all false
/-! Dp: data, what stays, trees of one's own -/
namespace Mr
open PySem L2

/-- the facts that all rules share: the written part, the classes by number -/
structure Tb where
  K : PySem.W.Frag
  cls : Nat → Addr
  /-- what stands from the start -/
  lo : Hp := fun _ => none
  /-- the slots, where they are fixed -/
  sg : Option L2.St := none
/-- nothing is fixed -/
class NoSg (T : Tb) : Prop where
  h : T.sg = none

/-- data, whole; fz: a part that stays, within a tree of one's own -/
inductive Py where
  | non | bl (b : Bool) | int (i : Int) | str (x : Str)
  | tup (l : List Py) | lst (l : List Py) | scr (l : List Py)
  | dic (lk : Bool) (ks : List Key) (vs : List Py) | dit (lk : Bool) (ks : List (List Key)) (vs : List Py)
  | obj (c : Nat) (fs : List Str) (vs : List Py)
  | fz (d : Py)

mutual
/-- nothing in it can be written -/
def Py.imm : Py → Bool
  | .non => true
  | .bl _ => true
  | .int _ => true
  | .str _ => true
  | .tup l => Py.immL l
  | _ => false
def Py.immL : List Py → Bool
  | [] => true
  | d :: l => d.imm && Py.immL l
end
mutual
/-- no dict in it is walked -/
def Py.unl : Py → Bool
  | .tup l => Py.unlL l
  | .lst l => Py.unlL l
  | .dic lk _ l => !lk && Py.unlL l
  | .dit lk _ l => !lk && Py.unlL l
  | .obj _ _ l => Py.unlL l
  | _ => true
def Py.unlL : List Py → Bool
  | [] => true
  | d :: l => d.unl && Py.unlL l
end
def Py.kids : Py → List Py
  | .tup l => l
  | .lst l => l
  | .dic _ _ l => l
  | .dit _ _ l => l
  | .obj _ _ l => l
  | _ => []
def Py.setKids : Py → List Py → Py
  | .tup _, l => .tup l
  | .lst _, l => .lst l
  | .dic k ks _, l => .dic k ks l
  | .dit k ks _, l => .dit k ks l
  | .obj c fs _, l => .obj c fs l
  | d, _ => d
def kidsH : HO → List V
  | .lst xs => xs
  | .tup xs => xs
  | .dK kvs => kvs.map (·.2)
  | .dT kvs => kvs.map (·.2)
  | .ins _ _ fs => fs.map (·.2)
  | .frz _ u => kidsH u
  | _ => []

mutual
/-- the value v stands for the data in a heap of what stays -/
inductive Rep (T : Tb) (F : Hp) : V → Py → Prop
  | non : Rep T F .non .non
  | bl (b : Bool) : Rep T F (.bl b) (.bl b)
  | int (i : Int) : Rep T F (.int i) (.int i)
  | str (x : Str) : Rep T F (.str x) (.str x)
  | tup {a : Addr} {xs : List V} {ds : List Py} : SqT T.K F a xs → RepL T F xs ds → Rep T F (.ref a) (.tup ds)
  | lst {a : Addr} {xs : List V} {ds : List Py} : F a = some (.lst xs) → RepL T F xs ds → Rep T F (.ref a) (.lst ds)
  | scr {a : Addr} {xs : List V} {ds : List Py} : SqL T.K F a xs → RepL T F xs ds → Rep T F (.ref a) (.scr ds)
  | dic {a : Addr} {kvs : List (Key × V)} {lk : Bool} {ks : List Key} {vs : List Py} : Rd F a (.dK kvs) → kvs.map (·.1) = ks ∧ ks.Nodup → RepL T F (kvs.map (·.2)) vs → Rep T F (.ref a) (.dic lk ks vs)
  | dit {a : Addr} {kvs : List (List Key × V)} {lk : Bool} {ks : List (List Key)} {vs : List Py} : Rd F a (.dT kvs) → kvs.map (·.1) = ks ∧ ks.Nodup → RepL T F (kvs.map (·.2)) vs → Rep T F (.ref a) (.dit lk ks vs)
  | obj {a dx : Addr} {fs : List (Str × V)} {c : Nat} {ks : List Str} {vs : List Py} : F a = some (.ins (T.cls c) dx fs) → fs.map (·.1) = ks → RepL T F (fs.map (·.2)) vs → Rep T F (.ref a) (.obj c ks vs)
  | fz {v : V} {d : Py} : Rep T F v d → Rep T F v (.fz d)
inductive RepL (T : Tb) (F : Hp) : List V → List Py → Prop
  | nil : RepL T F [] []
  | cons {v : V} {vs : List V} {d : Py} {ds : List Py} : Rep T F v d → RepL T F vs ds → RepL T F (v :: vs) (d :: ds)
end
/-- a dict, whatever its keys -/
def isD : HO → Prop
  | .dK _ => True
  | .dT _ => True
  | _ => False
/-- what stands in F stands in H, too; a dict may be locked there -/
def Sm (F H : Hp) : Prop := ∀ a o, F a = some o → H a = some o ∨ (isD o ∧ ∃ ob, H a = some (.frz ob o))
theorem Sm.of {F H : Hp} (h : Same F H) : Sm F H := fun a o e => .inl (h a o e)
theorem Sm.refl (F : Hp) : Sm F F := fun a o e => .inl e
theorem Same.sm {F G H : Hp} (h : Same F G) (k : Sm G H) : Sm F H := fun a o e => k a o (h a o e)
theorem Sm.get {F H : Hp} (h : Sm F H) {a : Addr} {o : HO} (e : F a = some o) : ∃ o', H a = some o' := by
  rcases h a o e with q | ⟨_, ob, q⟩
  · exact ⟨_, q⟩
  · exact ⟨_, q⟩
theorem Sm.plain {F H : Hp} (h : Sm F H) {a : Addr} {o : HO} (e : F a = some o) (n : ¬ isD o) : H a = some o := by
  rcases h a o e with q | ⟨z, _⟩
  · exact q
  · exact absurd z n
theorem Sm.rd {F H : Hp} (h : Sm F H) {a : Addr} {u : HO} (e : Rd F a u) : Rd H a u := by
  rcases e with e | ⟨ob, e⟩
  · rcases h a u e with q | ⟨_, q⟩
    · exact .inl q
    · exact .inr q
  · exact .inr ⟨ob, h.plain e (fun z => z)⟩
theorem sm_t {K : PySem.W.Frag} {H H' : Hp} {a : Addr} {xs : List V} (e : Sm H H') (h : SqT K H a xs) : SqT K H' a xs := by
  rcases h with (h | ⟨o, h⟩) | h
  · exact .inl (.inl (e.plain h fun z => z))
  · exact .inl (.inr ⟨o, e.plain h fun z => z⟩)
  · exact .inr h
theorem sm_l {K : PySem.W.Frag} {H H' : Hp} {a : Addr} {xs : List V} (e : Sm H H') (h : SqL K H a xs) : SqL K H' a xs := by
  rcases h with (h | ⟨o, h⟩) | h
  · exact .inl (.inl (e.plain h fun z => z))
  · exact .inl (.inr ⟨o, e.plain h fun z => z⟩)
  · exact .inr h
mutual
theorem Rep.monoS {T : Tb} {F G : Hp} (e : Sm F G) : ∀ {v : V} {d : Py}, Rep T F v d → Rep T G v d
  | _, _, .non => .non
  | _, _, .bl b => .bl b
  | _, _, .int i => .int i
  | _, _, .str x => .str x
  | _, _, .tup h r => .tup (sm_t e h) (RepL.monoS e r)
  | _, _, .lst h r => .lst (e.plain h fun z => z) (RepL.monoS e r)
  | _, _, .scr h r => .scr (sm_l e h) (RepL.monoS e r)
  | _, _, .dic h k r => .dic (e.rd h) k (RepL.monoS e r)
  | _, _, .dit h k r => .dit (e.rd h) k (RepL.monoS e r)
  | _, _, .obj h k r => .obj (e.plain h fun z => z) k (RepL.monoS e r)
  | _, _, .fz h => .fz (Rep.monoS e h)
theorem RepL.monoS {T : Tb} {F G : Hp} (e : Sm F G) : ∀ {vs : List V} {ds : List Py}, RepL T F vs ds → RepL T G vs ds
  | _, _, .nil => .nil
  | _, _, .cons h r => .cons (Rep.monoS e h) (RepL.monoS e r)
end
theorem Rep.mono {T : Tb} {F G : Hp} (e : Same F G) {v : V} {d : Py} (h : Rep T F v d) : Rep T G v d := h.monoS (.of e)
theorem RepL.mono {T : Tb} {F G : Hp} (e : Same F G) {v : List V} {d : List Py} (h : RepL T F v d) : RepL T G v d := h.monoS (.of e)

theorem RepL.length {T : Tb} {F : Hp} : ∀ {vs : List V} {ds : List Py}, RepL T F vs ds → vs.length = ds.length
  | _, _, .nil => rfl
  | _, _, .cons _ r => by rw [List.length_cons, List.length_cons, RepL.length r]
theorem RepL.append {T : Tb} {F : Hp} : ∀ {vs ws : List V} {ds es : List Py}, RepL T F vs ds → RepL T F ws es → RepL T F (vs ++ ws) (ds ++ es)
  | _, _, _, _, .nil, s => s
  | _, _, _, _, .cons h r, s => .cons h (RepL.append r s)
theorem RepL.take {T : Tb} {F : Hp} : ∀ {vs : List V} {ds : List Py} (n : Nat), RepL T F vs ds → RepL T F (vs.take n) (ds.take n)
  | _, _, 0, _ => by rw [List.take_zero, List.take_zero]; exact .nil
  | _, _, _ + 1, .nil => .nil
  | _, _, n + 1, .cons h r => .cons h (RepL.take n r)
theorem RepL.drop {T : Tb} {F : Hp} : ∀ {vs : List V} {ds : List Py} (n : Nat), RepL T F vs ds → RepL T F (vs.drop n) (ds.drop n)
  | _, _, 0, r => r
  | _, _, _ + 1, .nil => .nil
  | _, _, n + 1, .cons _ r => RepL.drop n r
theorem RepL.get {T : Tb} {F : Hp} : ∀ {vs : List V} {ds : List Py} {i : Nat} {d : Py}, RepL T F vs ds → ds[i]? = some d → ∃ v, vs[i]? = some v ∧ Rep T F v d
  | _, _, _, _, .nil, h => by cases h
  | _, _, 0, _, .cons h _, e => by
    have e1 := Option.some.inj e
    subst e1
    exact ⟨_, rfl, h⟩
  | _, _, i + 1, _, .cons _ r, e => RepL.get (i := i) r e
theorem RepL.getv {T : Tb} {F : Hp} : ∀ {vs : List V} {ds : List Py} {i : Nat} {v : V}, RepL T F vs ds → vs[i]? = some v → ∃ d, ds[i]? = some d ∧ Rep T F v d
  | _, _, _, _, .nil, h => by cases h
  | _, _, 0, _, .cons h _, e => by
    have e1 := Option.some.inj e
    subst e1
    exact ⟨_, rfl, h⟩
  | _, _, i + 1, _, .cons _ r, e => RepL.getv (i := i) r e
theorem RepL.set {T : Tb} {F : Hp} {v : V} {d : Py} (h : Rep T F v d) : ∀ {vs : List V} {ds : List Py} (i : Nat), RepL T F vs ds → RepL T F (vs.set i v) (ds.set i d)
  | _, _, _, .nil => .nil
  | _, _, 0, .cons _ r => .cons h r
  | _, _, i + 1, .cons q r => .cons q (RepL.set h i r)

/-- what stands at an address of one's own is of the data's form -/
inductive Shp (T : Tb) : HO → Py → Prop
  | tup {xs : List V} {ds : List Py} : Shp T (.tup xs) (.tup ds)
  | lst {xs : List V} {ds : List Py} : Shp T (.lst xs) (.lst ds)
  | dic {kvs : List (Key × V)} {ks : List Key} {vs : List Py} : kvs.map (·.1) = ks ∧ ks.Nodup → Shp T (.dK kvs) (.dic false ks vs)
  | dit {kvs : List (List Key × V)} {ks : List (List Key)} {vs : List Py} : kvs.map (·.1) = ks ∧ ks.Nodup → Shp T (.dT kvs) (.dit false ks vs)
  | dicL {ob : Obj} {kvs : List (Key × V)} {ks : List Key} {vs : List Py} : kvs.map (·.1) = ks ∧ ks.Nodup → Shp T (.frz ob (.dK kvs)) (.dic true ks vs)
  | ditL {ob : Obj} {kvs : List (List Key × V)} {ks : List (List Key)} {vs : List Py} : kvs.map (·.1) = ks ∧ ks.Nodup → Shp T (.frz ob (.dT kvs)) (.dit true ks vs)
  | obj {dx : Addr} {fs : List (Str × V)} {c : Nat} {ks : List Str} {vs : List Py} : fs.map (·.1) = ks → Shp T (.ins (T.cls c) dx fs) (.obj c ks vs)
theorem Shp.setKids {T : Tb} {o : HO} {d : Py} (h : Shp T o d) (l : List Py) : Shp T o (d.setKids l) ∧ (d.setKids l).kids = l := by
  cases h with
  | tup => exact ⟨.tup, rfl⟩
  | lst => exact ⟨.lst, rfl⟩
  | dic e => exact ⟨.dic e, rfl⟩
  | dit e => exact ⟨.dit e, rfl⟩
  | dicL e => exact ⟨.dicL e, rfl⟩
  | ditL e => exact ⟨.ditL e, rfl⟩
  | obj e => exact ⟨.obj e, rfl⟩
mutual
/-- v stands for the data; its objects are one's own, and stand at A -/
inductive Tr (T : Tb) (F H : Hp) : V → Py → List Addr → Prop
  | leaf {v : V} {d : Py} : Rep T F v d → d.imm = true → Tr T F H v d []
  | fz {v : V} {d : Py} : Rep T F v d → Tr T F H v (.fz d) []
  | node {p : Addr} {o : HO} {d : Py} {A : List Addr} : H p = some o → Shp T o d → d.imm = false → TrL T F H (kidsH o) d.kids A → Tr T F H (.ref p) d (p :: A)
inductive TrL (T : Tb) (F H : Hp) : List V → List Py → List Addr → Prop
  | nil : TrL T F H [] [] []
  | cons {v : V} {vs : List V} {d : Py} {ds : List Py} {A B : List Addr} : Tr T F H v d A → TrL T F H vs ds B → TrL T F H (v :: vs) (d :: ds) (A ++ B)
end
section
variable {T : Tb} {F F' G H H' : Hp}
mutual
theorem Tr.keep (e : Same F F') : ∀ {v : V} {d : Py} {A : List Addr}, Tr T F H v d A → (∀ a ∈ A, H' a = H a) → Tr T F' H' v d A
  | _, _, _, .leaf h i, _ => .leaf (h.mono e) i
  | _, _, _, .fz h, _ => .fz (h.mono e)
  | _, _, _, .node hp s i r, k => .node ((k _ List.mem_cons_self).trans hp) s i (TrL.keep e r fun a ha => k a (List.mem_cons_of_mem _ ha))
theorem TrL.keep (e : Same F F') : ∀ {vs : List V} {ds : List Py} {A : List Addr}, TrL T F H vs ds A → (∀ a ∈ A, H' a = H a) → TrL T F' H' vs ds A
  | _, _, _, .nil, _ => .nil
  | _, _, _, .cons h r, k => .cons (Tr.keep e h fun a ha => k a (List.mem_append_left _ ha)) (TrL.keep e r fun a ha => k a (List.mem_append_right _ ha))
end
mutual
theorem Tr.dom : ∀ {v : V} {d : Py} {A : List Addr}, Tr T F H v d A → ∀ a ∈ A, ∃ o, H a = some o ∧ ∃ d, Shp T o d
  | _, _, _, .leaf _ _, a, ha => nomatch ha
  | _, _, _, .fz _, a, ha => nomatch ha
  | _, _, _, .node hp s _ r, a, ha => (List.mem_cons.mp ha).elim (fun z => ⟨_, z ▸ hp, _, s⟩) fun z => TrL.dom r a z
theorem TrL.dom : ∀ {vs : List V} {ds : List Py} {A : List Addr}, TrL T F H vs ds A → ∀ a ∈ A, ∃ o, H a = some o ∧ ∃ d, Shp T o d
  | _, _, _, .nil, a, ha => nomatch ha
  | _, _, _, .cons h r, a, ha => (List.mem_append.mp ha).elim (fun z => Tr.dom h a z) fun z => TrL.dom r a z
end
theorem rep_node {G : Hp} {p : Addr} {o : HO} {d : Py} (hp : G p = some o) (s : Shp T o d) (r : RepL T G (kidsH o) d.kids) : Rep T G (.ref p) d := by
  cases s with
  | tup => exact .tup (.inl (.inl hp)) r
  | lst => exact .lst hp r
  | dic e => exact .dic (.inl hp) e r
  | dit e => exact .dit (.inl hp) e r
  | dicL e => exact .dic (.inr ⟨_, hp⟩) e r
  | ditL e => exact .dit (.inr ⟨_, hp⟩) e r
  | obj e => exact .obj hp e r
mutual
/-- .. read -/
theorem Tr.rep (e : Sm F H) : ∀ {v : V} {d : Py} {A : List Addr}, Tr T F H v d A → Rep T H v d
  | _, _, _, .leaf h _ => h.monoS e
  | _, _, _, .fz h => .fz (h.monoS e)
  | _, _, _, .node hp s _ r => rep_node hp s (TrL.rep e r)
theorem TrL.rep (e : Sm F H) : ∀ {vs : List V} {ds : List Py} {A : List Addr}, TrL T F H vs ds A → RepL T H vs ds
  | _, _, _, .nil => .nil
  | _, _, _, .cons h r => .cons (Tr.rep e h) (TrL.rep e r)
end
mutual
/-- .. put to what stays -/
theorem Tr.stay (e : Same F F') : ∀ {v : V} {d : Py} {A : List Addr}, Tr T F H v d A → (∀ a ∈ A, F' a = H a) → Rep T F' v d
  | _, _, _, .leaf h _, _ => h.mono e
  | _, _, _, .fz h, _ => .fz (h.mono e)
  | _, _, _, .node hp s _ r, k => rep_node ((k _ List.mem_cons_self).trans hp) s (TrL.stay e r fun a ha => k a (List.mem_cons_of_mem _ ha))
theorem TrL.stay (e : Same F F') : ∀ {vs : List V} {ds : List Py} {A : List Addr}, TrL T F H vs ds A → (∀ a ∈ A, F' a = H a) → RepL T F' vs ds
  | _, _, _, .nil, _ => .nil
  | _, _, _, .cons h r, k => .cons (Tr.stay e h fun a ha => k a (List.mem_append_left _ ha)) (TrL.stay e r fun a ha => k a (List.mem_append_right _ ha))
end
theorem TrL.length : ∀ {vs : List V} {ds : List Py} {A : List Addr}, TrL T F H vs ds A → vs.length = ds.length
  | _, _, _, .nil => rfl
  | _, _, _, .cons _ r => by rw [List.length_cons, List.length_cons, TrL.length r]
theorem TrL.append : ∀ {vs ws : List V} {ds es : List Py} {A B : List Addr}, TrL T F H vs ds A → TrL T F H ws es B → TrL T F H (vs ++ ws) (ds ++ es) (A ++ B)
  | _, _, _, _, _, _, .nil, s => s
  | _, _, _, _, _, _, .cons h r, s => by rw [List.append_assoc]; exact .cons h (TrL.append r s)
/-- one item, and others in its place -/
theorem TrL.at : ∀ {vs : List V} {ds : List Py} {A : List Addr} {n : Nat} {k : Py}, TrL T F H vs ds A → ds[n]? = some k → ∃ w B pre post, vs[n]? = some w ∧ A = pre ++ (B ++ post) ∧ Tr T F H w k B ∧
    ∀ {F' H' : Hp} {w' : V} {k' : Py} {B' : List Addr}, Same F F' → (∀ a ∈ pre ++ post, H' a = H a) → Tr T F' H' w' k' B' → TrL T F' H' (vs.set n w') (ds.set n k') (pre ++ (B' ++ post))
  | _, _, _, _, _, .nil, e => by cases e
  | _, _, _, 0, _, .cons (v := v) (A := A) (B := B) h r, e => by
    have e1 := Option.some.inj e
    subst e1
    exact ⟨v, A, [], B, rfl, rfl, h, fun {F' H' w' k' B'} s hk t => (TrL.cons t (r.keep s hk) : TrL T F' H' (w' :: _) (k' :: _) (B' ++ B))⟩
  | _, _, _, n + 1, _, .cons (v := v) (A := A) (B := B) h r, e => by
    obtain ⟨w, C, pre, post, e1, e2, t, put⟩ := TrL.at (n := n) r e
    subst e2
    exact ⟨w, C, A ++ pre, post, e1, by rw [List.append_assoc], t, fun s k t => by
      rw [List.append_assoc]
      exact .cons (h.keep s fun a ha => k a (by rw [List.append_assoc]; exact List.mem_append_left _ ha)) (put s (fun a ha => k a (by rw [List.append_assoc]; exact List.mem_append_right _ ha)) t)⟩
theorem set_same {α : Type} : ∀ {l : List α} {n : Nat} {x : α}, l[n]? = some x → l.set n x = l
  | [], _, _, h => by cases h
  | _ :: _, 0, _, h => by cases h; rfl
  | a :: l, n + 1, x, h => by rw [List.set_cons_succ, set_same (l := l) (n := n) h]
/-! ### ways into a tree -/
def Py.getP : Py → List Nat → Option Py
  | d, [] => some d
  | d, n :: π => match d.kids[n]? with
    | some k => k.getP π
    | none => none
def Py.putP : Py → List Nat → Py → Py
  | _, [], e => e
  | d, n :: π, e => match d.kids[n]? with
    | some k => d.setKids (d.kids.set n (k.putP π e))
    | none => d
/-- the value at the end of a way -/
def At (H : Hp) : V → List Nat → V → Prop
  | u, [], v => v = u
  | u, n :: π, v => ∃ p o w, u = .ref p ∧ H p = some o ∧ (kidsH o)[n]? = some w ∧ At H w π v
theorem At.snoc {p : Addr} {o : HO} {n : Nat} {w : V} (hp : H p = some o) (hw : (kidsH o)[n]? = some w) : ∀ {u : V} {π : List Nat}, At H u π (.ref p) → At H u (π ++ [n]) w
  | _, [], h => ⟨p, o, w, Eq.symm h, hp, hw, rfl⟩
  | _, _ :: π, ⟨q, o', w', e, h1, h2, h3⟩ => ⟨q, o', w', e, h1, h2, At.snoc hp hw (π := π) h3⟩
theorem At.app : ∀ {u v w : V} {π π' : List Nat}, At H u π v → At H v π' w → At H u (π ++ π') w
  | _, _, _, [], _, h, k => by
    have h : _ = _ := h
    rw [← h]; exact k
  | _, _, _, _ :: π, _, ⟨q, o', w', e, h1, h2, h3⟩, k => ⟨q, o', w', e, h1, h2, At.app (π := π) h3 k⟩
theorem At.one : ∀ {u v w : V} {π : List Nat}, At H u π v → At H u π w → v = w
  | _, _, _, [], h, k => Eq.trans h (Eq.symm k)
  | _, _, _, _ :: π, ⟨q, o, w, e, h1, h2, h3⟩, ⟨q', o', w', e', h1', h2', h3'⟩ => by
    rw [e] at e'
    cases e'
    rw [h1] at h1'
    cases h1'
    rw [h2] at h2'
    cases h2'
    exact At.one (π := π) h3 h3'
/-- objects grow, or are locked: the ways stay -/
def KeepK (H H' : Hp) : Prop := ∀ a o, H a = some o → ∃ o', H' a = some o' ∧ kidsH o' = kidsH o
theorem At.keepK (k : KeepK H H') : ∀ {u v : V} {π : List Nat}, At H u π v → At H' u π v
  | _, _, [], h => h
  | _, _, _ :: π, ⟨q, o, w, e, h1, h2, h3⟩ => by
    obtain ⟨o', e1, e2⟩ := k q o h1
    exact ⟨q, o', w, e, e1, by rw [e2]; exact h2, At.keepK k (π := π) h3⟩
theorem KeepK.same (h : Same H H') : KeepK H H' := fun a o e => ⟨o, h a o e, rfl⟩
mutual
theorem imm_kid : ∀ {d : Py} {n : Nat} {k : Py}, d.imm = true → d.kids[n]? = some k → k.imm = true
  | .tup l, n, k, h, e => immL_get (l := l) h e
  | .non, _, _, _, e => by cases e
  | .bl _, _, _, _, e => by cases e
  | .int _, _, _, _, e => by cases e
  | .str _, _, _, _, e => by cases e
  | .lst _, _, _, h, _ => by cases h
  | .scr _, _, _, h, _ => by cases h
  | .dic _ _ _, _, _, h, _ => by cases h
  | .dit _ _ _, _, _, h, _ => by cases h
  | .obj _ _ _, _, _, h, _ => by cases h
  | .fz _, _, _, h, _ => by cases h
theorem immL_get : ∀ {l : List Py} {n : Nat} {k : Py}, Py.immL l = true → l[n]? = some k → k.imm = true
  | [], _, _, _, e => by cases e
  | d :: l, 0, k, h, e => by
    have e1 := Option.some.inj e
    subst e1
    exact (Bool.and_eq_true_iff.mp h).1
  | d :: l, n + 1, k, h, e => immL_get (l := l) (n := n) (Bool.and_eq_true_iff.mp h).2 e
end
theorem immL_set : ∀ {l : List Py} {n : Nat} {k k' : Py}, l[n]? = some k → k'.imm = false → Py.immL (l.set n k') = false
  | [], _, _, _, e, _ => by cases e
  | d :: l, 0, k, k', e, h => by show (k'.imm && Py.immL l) = false; rw [h]; rfl
  | d :: l, n + 1, k, k', e, h => by
    show (d.imm && Py.immL (l.set n k')) = false
    rw [immL_set (l := l) (n := n) e h, Bool.and_false]
theorem imm_getP : ∀ {π : List Nat} {t d : Py}, t.imm = true → t.getP π = some d → d.imm = true
  | [], t, d, h, e => by cases e; exact h
  | n :: π, t, d, h, e => by
    have e : (match t.kids[n]? with | some k => k.getP π | none => none) = some d := e
    cases q : t.kids[n]? with
    | none => rw [q] at e; cases e
    | some k => rw [q] at e; exact imm_getP (π := π) (imm_kid h q) e
theorem putP_imm : ∀ {π : List Nat} {t d e : Py}, t.getP π = some d → e.imm = false → (t.putP π e).imm = false
  | [], _, _, _, _, h => h
  | n :: π, t, d, e, g, h => by
    have g : (match t.kids[n]? with | some k => k.getP π | none => none) = some d := g
    show (match t.kids[n]? with | some k => t.setKids (t.kids.set n (k.putP π e)) | none => t).imm = false
    cases q : t.kids[n]? with
    | none => rw [q] at g; cases g
    | some k =>
      rw [q] at g
      have ih := putP_imm (π := π) g h
      cases t with
      | tup l => exact immL_set q ih
      | lst l => rfl
      | dic _ _ l => rfl
      | dit _ _ l => rfl
      | obj _ _ l => rfl
      | _ => cases q
theorem Shp.imm_set {o : HO} {d k k' : Py} {n : Nat} (s : Shp T o d) (q : d.kids[n]? = some k) (i : d.imm = false) (h : k'.imm = false) : (d.setKids (d.kids.set n k')).imm = false := by
  cases s with
  | tup => exact immL_set q h
  | _ => rfl
/-- a part of a tree, and others in its place -/
theorem Tr.focus : ∀ {π : List Nat} {v : V} {t d : Py} {A : List Addr}, Tr T F H v t A → t.getP π = some d → (π = [] ∨ d.imm = false) → ∃ u B pre post, A = pre ++ (B ++ post) ∧ Tr T F H u d B ∧ At H v π u ∧
    ∀ {F' H' : Hp} {d' : Py} {B' : List Addr}, Same F F' → (∀ a ∈ pre ++ post, H' a = H a) → d'.imm = false → Tr T F' H' u d' B' → Tr T F' H' v (t.putP π d') (pre ++ (B' ++ post)) ∧ At H' v π u
  | [], v, t, d, A, h, e, _ => by
    cases e
    exact ⟨v, A, [], [], by simp, h, rfl, fun {F' H' d' B'} _ _ _ t' => ⟨by simpa [Py.putP] using t', rfl⟩⟩
  | n :: π, v, t, d, A, h, e, hd => by
    have hd : d.imm = false := hd.elim (fun z => by cases z) id
    have e' : (match t.kids[n]? with | some k => k.getP π | none => none) = some d := e
    cases h with
    | leaf _ i => rw [imm_getP i e] at hd; cases hd
    | fz _ => cases e'
    | node hp s im0 r =>
      rename_i p o A
      cases q : t.kids[n]? with
      | none => rw [q] at e'; cases e'
      | some k =>
        rw [q] at e'
        obtain ⟨w, C, pre1, post1, e1, e2, t1, put1⟩ := r.at q
        obtain ⟨u, B, pre, post, e3, t2, a2, put2⟩ := Tr.focus (π := π) t1 e' (.inr hd)
        refine ⟨u, B, p :: (pre1 ++ pre), post ++ post1, by rw [e2, e3]; simp, t2, ⟨p, o, w, rfl, hp, e1, a2⟩, fun {F' H' d' B'} sF hk ni t' => ?_⟩
        have both := put2 sF (fun a ha => hk a (by
          rcases List.mem_append.mp ha with z | z
          · exact List.mem_append_left _ (List.mem_cons_of_mem _ (List.mem_append_right _ z))
          · exact List.mem_append_right _ (List.mem_append_left _ z))) ni t'
        have r' := put1 sF (fun a ha => hk a (by
          rcases List.mem_append.mp ha with z | z
          · exact List.mem_append_left _ (List.mem_cons_of_mem _ (List.mem_append_left _ z))
          · exact List.mem_append_right _ (List.mem_append_right _ z))) both.1
        rw [set_same e1] at r'
        have z : t.putP (n :: π) d' = t.setKids (t.kids.set n (k.putP π d')) := by
          show (match t.kids[n]? with | some k => t.setKids (t.kids.set n (k.putP π d')) | none => t) = _
          rw [q]
        obtain ⟨s1, s2⟩ := s.setKids (t.kids.set n (k.putP π d'))
        rw [z]
        have fin := Tr.node (F := F') (p := p) ((hk p (by simp)).trans hp) s1 (s.imm_set q im0 (putP_imm e' ni)) (by rw [s2]; exact r')
        have e5 : p :: (pre1 ++ ((pre ++ (B' ++ post)) ++ post1)) = (p :: (pre1 ++ pre)) ++ (B' ++ (post ++ post1)) := by simp
        rw [e5] at fin
        exact ⟨fin, p, o, w, rfl, (hk p (by simp)).trans hp, e1, both.2⟩
end
end Mr
/-! Dp: roots apart from one another, slots -/
namespace Mr
open PySem L2

/-- a slot's data: nothing, what stays, a tree of its own, a part of the tree of slot j; io: an argument that the asker keeps -/
inductive Sl where
  | no
  | im (io : Bool) (d : Py)
  | ow (io : Bool) (d : Py)
  | al (j : Nat) (π : List Nat)
abbrev Rho := List Sl
def Sl.isIo : Sl → Bool
  | .im io _ => io
  | .ow io _ => io
  | _ => false
/-- what is not ours: what stands there; and the slots that the asker keeps -/
structure Frm where
  h : Hp
  io : Nat → Option V := fun _ => none
  lk : Addr → Prop := fun _ => False
instance : CoeFun Frm fun _ => Addr → Option HO := ⟨Frm.h⟩
abbrev Rts := List (V × Py)
inductive TrP (T : Tb) (F H : Hp) : Rts → List Addr → Prop
  | nil : TrP T F H [] []
  | cons {v : V} {d : Py} {L : Rts} {A B : List Addr} : Tr T F H v d A → TrP T F H L B → TrP T F H ((v, d) :: L) (A ++ B)
/-- A is a part of B -/
def Sub (A B : List Addr) : Prop := ∃ R, (A ++ R).Perm B
theorem Sub.of {A B : List Addr} (h : A.Perm B) : Sub A B := ⟨[], by simpa using h⟩
theorem Sub.refl (A : List Addr) : Sub A A := .of (List.Perm.refl _)
theorem Sub.mem {A B : List Addr} (h : Sub A B) {a : Addr} (ha : a ∈ A) : a ∈ B := by
  obtain ⟨R, h⟩ := h
  exact h.mem_iff.mp (List.mem_append_left _ ha)
theorem Sub.nodup {A B : List Addr} (h : Sub A B) (n : B.Nodup) : A.Nodup := by
  obtain ⟨R, h⟩ := h
  exact (List.nodup_append.mp (h.nodup_iff.mpr n)).1
theorem Sub.trans {A B C : List Addr} (h : Sub A B) (k : Sub B C) : Sub A C := by
  obtain ⟨R, h⟩ := h
  obtain ⟨S, k⟩ := k
  exact ⟨R ++ S, by rw [← List.append_assoc]; exact (h.append_right S).trans k⟩
theorem Sub.right {A B C : List Addr} (h : Sub A B) : Sub A (C ++ B) := by
  obtain ⟨R, h⟩ := h
  exact ⟨R ++ C, by rw [← List.append_assoc]; exact (h.append_right C).trans List.perm_append_comm⟩
theorem Sub.app {A B C D : List Addr} (h : Sub A B) (k : Sub C D) : Sub (A ++ C) (B ++ D) := by
  obtain ⟨R, h⟩ := h
  obtain ⟨S, k⟩ := k
  refine ⟨R ++ S, ?_⟩
  have e : (A ++ C ++ (R ++ S)).Perm ((A ++ R) ++ (C ++ S)) := by
    rw [List.append_assoc, List.append_assoc]
    refine List.Perm.append_left A ?_
    rw [← List.append_assoc, ← List.append_assoc]
    exact List.Perm.append_right S List.perm_append_comm
  exact e.trans (h.append k)
section
variable {T : Tb} {F F' G H H' : Hp} {Φ : Frm} {L M : Rts} {v : V} {t d : Py}
theorem TrP.perm (h : L.Perm M) : ∀ {A : List Addr}, TrP T F H L A → ∃ B, TrP T F H M B ∧ A.Perm B := by
  induction h with
  | nil => exact fun r => ⟨_, r, List.Perm.refl _⟩
  | cons x _ ih =>
    intro A r
    cases r with
    | cons t r =>
      obtain ⟨B, r', p⟩ := ih r
      exact ⟨_, .cons t r', p.append_left _⟩
  | swap x y l =>
    intro A r
    cases r with
    | cons t r =>
      cases r with
      | cons t2 r =>
        refine ⟨_, .cons t2 (.cons t r), ?_⟩
        rw [← List.append_assoc, ← List.append_assoc]
        exact List.Perm.append_right _ List.perm_append_comm
  | trans _ _ ih1 ih2 =>
    intro A r
    obtain ⟨B, r1, p1⟩ := ih1 r
    obtain ⟨C, r2, p2⟩ := ih2 r1
    exact ⟨C, r2, p1.trans p2⟩
theorem TrP.keep (e : Same F F') : ∀ {L : Rts} {A : List Addr}, TrP T F H L A → (∀ a ∈ A, H' a = H a) → TrP T F' H' L A
  | _, _, .nil, _ => .nil
  | _, _, .cons h r, k => .cons (h.keep e fun a ha => k a (List.mem_append_left _ ha)) (TrP.keep e r fun a ha => k a (List.mem_append_right _ ha))
theorem TrP.dom : ∀ {L : Rts} {A : List Addr}, TrP T F H L A → ∀ a ∈ A, ∃ o, H a = some o ∧ ∃ d, Shp T o d
  | _, _, .nil, a, ha => nomatch ha
  | _, _, .cons h r, a, ha => (List.mem_append.mp ha).elim (fun z => h.dom a z) fun z => TrP.dom r a z
theorem TrP.app : ∀ {L : Rts} {A B : List Addr}, TrP T F H L A → TrP T F H M B → TrP T F H (L ++ M) (A ++ B)
  | _, _, _, .nil, s => s
  | _, _, _, .cons h r, s => by rw [List.append_assoc]; exact .cons h (TrP.app r s)
theorem TrP.split : ∀ {L : Rts} {C : List Addr}, TrP T F H (L ++ M) C → ∃ A B, C = A ++ B ∧ TrP T F H L A ∧ TrP T F H M B
  | [], C, h => ⟨[], C, rfl, .nil, h⟩
  | _ :: L, _, h => by
    cases h with
    | cons t r =>
      obtain ⟨A, B, e, r1, r2⟩ := TrP.split (L := L) r
      exact ⟨_, B, by rw [e, List.append_assoc], .cons t r1, r2⟩
theorem TrP.list : ∀ {L : Rts} {A : List Addr}, TrP T F H L A → TrL T F H (L.map (·.1)) (L.map (·.2)) A
  | _, _, .nil => .nil
  | _, _, .cons h r => .cons h (TrP.list r)
theorem TrP.of : ∀ {L : Rts} {A : List Addr}, TrL T F H (L.map (·.1)) (L.map (·.2)) A → TrP T F H L A
  | [], _, h => by cases h; exact .nil
  | _ :: L, _, h => by
    cases h with
    | cons t r => exact .cons t (TrP.of (L := L) r)
/-- roots apart from one another, from what stays, from what is not ours -/
def Sep (T : Tb) (F H : Hp) (Φ : Frm) (L : Rts) : Prop := ∃ A, TrP T F H L A ∧ A.Nodup ∧ ∀ a ∈ A, F a = none ∧ Φ a = none
theorem Sep.perm (h : L.Perm M) (s : Sep T F H Φ L) : Sep T F H Φ M := by
  obtain ⟨A, r, n, f⟩ := s
  obtain ⟨B, r', p⟩ := r.perm h
  exact ⟨B, r', p.nodup_iff.mp n, fun a ha => f a (p.mem_iff.mpr ha)⟩
theorem Sep.tail {x : V × Py} (s : Sep T F H Φ (x :: L)) : Sep T F H Φ L := by
  obtain ⟨A, r, n, f⟩ := s
  cases r with
  | cons t r => exact ⟨_, r, (List.nodup_append.mp n).2.1, fun a ha => f a (List.mem_append_right _ ha)⟩
theorem Sep.right (s : Sep T F H Φ (L ++ M)) : Sep T F H Φ M := by
  obtain ⟨A, r, n, f⟩ := s
  obtain ⟨B, C, rfl, r1, r2⟩ := r.split
  exact ⟨_, r2, (List.nodup_append.mp n).2.1, fun a ha => f a (List.mem_append_right _ ha)⟩
theorem Sep.left (s : Sep T F H Φ (L ++ M)) : Sep T F H Φ L := by
  obtain ⟨A, r, n, f⟩ := s
  obtain ⟨B, C, rfl, r1, r2⟩ := r.split
  exact ⟨_, r1, (List.nodup_append.mp n).1, fun a ha => f a (List.mem_append_left _ ha)⟩
theorem Sep.nil : Sep T F H Φ [] := ⟨[], .nil, List.nodup_nil, fun a ha => nomatch ha⟩
/-- what is not ours is there, and does not stay -/
def Out (F H : Hp) (Φ : Frm) : Prop := ∀ a o, Φ a = some o → H a = some o ∧ F a = none
theorem sm_none (h : Sm F H) {p : Addr} (n : H p = none) : F p = none := by
  cases e : F p with
  | none => rfl
  | some o =>
    obtain ⟨o', q⟩ := h.get e
    rw [n] at q
    cases q
theorem out_none (h : Out F H Φ) {p : Addr} (n : H p = none) : Φ p = none := by
  cases e : Φ p with
  | none => rfl
  | some o =>
    have q := (h p o e).1
    rw [n] at q
    cases q
theorem Out.mono (h : Out F H Φ) (k : ∀ a o, Φ a = some o → H' a = some o) : Out F H' Φ := fun a o e => ⟨k a o e, (h a o e).2⟩
/-- a new object over some of the roots -/
theorem Sep.alloc {items : Rts} {p : Addr} {o : HO} (s : Sep T F H Φ (items ++ L)) (fh : Sm F H) (ph : Out F H Φ) (hn : H p = none) (sh : Shp T o d) (ni : d.imm = false) (ek : kidsH o = items.map (·.1)) (ed : d.kids = items.map (·.2)) :
    Sep T F (upd H p o) Φ ((.ref p, d) :: L) := by
  obtain ⟨A, r, n, f⟩ := s
  have hp : ∀ a ∈ A, a ≠ p := fun a ha z => by
    obtain ⟨u, e, _⟩ := r.dom a ha
    rw [z, hn] at e
    cases e
  have r' : TrP T F (upd H p o) (items ++ L) A := r.keep (fun a o e => e) fun a ha => upd_ne (hp a ha)
  obtain ⟨B, C, rfl, r1, r2⟩ := r'.split
  refine ⟨p :: B ++ C, .cons (.node upd_same sh ni (by rw [ek, ed]; exact r1.list)) r2, ?_, fun a ha => ?_⟩
  · exact List.nodup_cons.mpr ⟨fun z => hp p z rfl, n⟩
  · rcases List.mem_cons.mp ha with z | z
    · rw [z]; exact ⟨sm_none fh hn, out_none ph hn⟩
    · exact f a z
theorem Sep.grow {p : Addr} {o : HO} (s : Sep T F H Φ L) (hn : H p = none) : Sep T F (upd H p o) Φ L := by
  obtain ⟨A, r, n, f⟩ := s
  refine ⟨A, r.keep (fun a o e => e) fun a ha => upd_ne fun z => ?_, n, f⟩
  obtain ⟨u, e, _⟩ := r.dom a ha
  rw [z, hn] at e
  cases e
theorem sm_grow {p : Addr} {o : HO} (h : Sm F H) (hn : H p = none) : Sm F (upd H p o) := fun a u e => by
  have : a ≠ p := fun z => by rw [z, sm_none h hn] at e; cases e
  rw [upd_ne this]
  exact h a u e
theorem keepK_grow {p : Addr} {o : HO} (hn : H p = none) : KeepK H (upd H p o) := fun a u e => ⟨u, by rw [upd_ne (ne_of_none e hn)]; exact e, rfl⟩
theorem out_grow {p : Addr} {o : HO} (h : Out F H Φ) (hn : H p = none) : Out F (upd H p o) Φ := h.mono fun a u e => by
  rw [upd_ne (ne_of_none (h a u e).1 hn)]; exact (h a u e).1
/-- a root is put to what stays -/
theorem Sep.stay (s : Sep T F H Φ ((v, t) :: L)) (fh : Sm F H) (ph : Out F H Φ) : ∃ F', Same F F' ∧ Sm F' H ∧ Out F' H Φ ∧ Sep T F' H Φ L ∧ (∃ A, Tr T F H v t A ∧ (∀ a ∈ A, F' a = H a)) ∧ ∀ a o, F' a = some o → F a = some o ∨ H a = some o := by
  obtain ⟨A, r, n, f⟩ := s
  cases r with
  | cons h r =>
    rename_i A B
    have n' := List.nodup_append.mp n
    have ex : Same F fun a => if a ∈ A then H a else F a := fun a o e => by
      show (if a ∈ A then H a else F a) = some o
      rw [if_neg fun z => by rw [(f a (List.mem_append_left _ z)).1] at e; cases e]
      exact e
    refine ⟨fun a => if a ∈ A then H a else F a, ex, fun a o e => ?_, fun a o e => ⟨(ph a o e).1, ?_⟩, ⟨B, r.keep ex fun _ _ => rfl, n'.2.1, fun a ha => ⟨?_, (f a (List.mem_append_right _ ha)).2⟩⟩, ⟨A, h, fun a ha => if_pos ha⟩, fun a o e => ?_⟩
    · by_cases z : a ∈ A
      · have e : (if a ∈ A then H a else F a) = some o := e
        rw [if_pos z] at e
        exact .inl e
      · have e : (if a ∈ A then H a else F a) = some o := e
        rw [if_neg z] at e
        exact fh a o e
    · show (if a ∈ A then H a else F a) = none
      rw [if_neg fun z => by rw [(f a (List.mem_append_left _ z)).2] at e; cases e]
      exact (ph a o e).2
    · show (if a ∈ A then H a else F a) = none
      rw [if_neg fun z => n'.2.2 a z a ha rfl]
      exact (f a (List.mem_append_right _ ha)).1
    · have e : (if a ∈ A then H a else F a) = some o := e
      by_cases z : a ∈ A
      · rw [if_pos z] at e; exact .inr e
      · rw [if_neg z] at e; exact .inl e
/-! ### ways and changes -/
/-- a container in a tree -/
def Py.isNode : Py → Bool
  | .tup _ => true
  | .lst _ => true
  | .dic _ _ _ => true
  | .dit _ _ _ => true
  | .obj _ _ _ => true
  | _ => false
/-- .. that is written -/
def Py.mut (d : Py) : Bool := d.isNode && !d.imm
theorem Py.mut_imm {d : Py} (h : d.mut = true) : d.imm = false := by
  have := (Bool.and_eq_true_iff.mp h).2
  simpa using this
theorem Tr.mut {A : List Addr} (h : Tr T F H v d A) (m : d.mut = true) : ∃ p o B, v = .ref p ∧ A = p :: B ∧ H p = some o ∧ Shp T o d ∧ TrL T F H (kidsH o) d.kids B := by
  cases h with
  | leaf _ i => rw [Py.mut_imm m] at i; cases i
  | fz _ => cases m
  | node hp s _ r => exact ⟨_, _, _, rfl, rfl, hp, s, r⟩
theorem Tr.atmem {π : List Nat} {A : List Addr} {p : Addr} (h : Tr T F H v t A) (e : t.getP π = some d) (m : d.mut = true) (a : At H v π (.ref p)) : p ∈ A := by
  obtain ⟨u, B, pre, post, rfl, t2, a2, _⟩ := h.focus e (.inr (Py.mut_imm m))
  obtain ⟨q, o, C, rfl, rfl, _⟩ := t2.mut m
  cases a.one a2
  simp
/-- elsewhere -/
theorem Tr.off {p : Addr} {o' : HO} : ∀ {π : List Nat} {v : V} {t d : Py} {A : List Addr} {w : V}, Tr T F H v t A → t.getP π = some d → (π = [] ∨ d.imm = false) → p ∉ A → At H v π w → At (upd H p o') v π w
  | [], _, _, _, _, _, _, _, _, _, a => a
  | n :: π, v, t, d, A, w, h, e, hd, hp, ⟨q, o, x, e1, h1, h2, a⟩ => by
    have hd : d.imm = false := hd.elim (fun z => by cases z) id
    have e' : (match t.kids[n]? with | some k => k.getP π | none => none) = some d := e
    cases h with
    | leaf _ i => rw [imm_getP i e] at hd; cases hd
    | fz _ => cases e'
    | node hq s _ r =>
      rename_i q' o2 A
      cases e1
      rw [hq] at h1
      cases h1
      cases z : t.kids[n]? with
      | none => rw [z] at e'; cases e'
      | some k =>
        rw [z] at e'
        obtain ⟨x', C, pre, post, e3, e4, t1, _⟩ := r.at z
        rw [h2] at e3
        cases e3
        refine ⟨q, o, x, rfl, by rw [upd_ne (show q ≠ p from fun y => hp (by rw [← y]; exact List.mem_cons_self))]; exact hq, h2, Tr.off (π := π) t1 e' (.inr hd) (fun y => hp ?_) a⟩
        rw [e4]
        exact List.mem_cons_of_mem _ (List.mem_append_right _ (List.mem_append_left _ y))
/-- one place and another one -/
theorem TrL.two : ∀ {vs : List V} {ds : List Py} {A : List Addr} {m n : Nat} {j k : Py}, TrL T F H vs ds A → m ≠ n → ds[m]? = some j → ds[n]? = some k → ∃ x y B C, vs[m]? = some x ∧ vs[n]? = some y ∧ Tr T F H x j B ∧ Tr T F H y k C ∧ Sub (B ++ C) A
  | _, _, _, _, _, _, _, .nil, _, e, _ => by cases e
  | _, _, _, 0, 0, _, _, .cons _ _, ne, _, _ => absurd rfl ne
  | _, _, _, 0, n + 1, j, k, .cons (v := v) (A := A) (B := B) h r, _, e1, e2 => by
    have z := Option.some.inj e1
    subst z
    obtain ⟨y, C, pre, post, e3, e4, t, _⟩ := r.at (n := n) e2
    refine ⟨v, y, A, C, rfl, e3, h, t, pre ++ post, ?_⟩
    rw [e4, List.append_assoc]
    refine List.Perm.append_left A ?_
    rw [← List.append_assoc, ← List.append_assoc]
    exact List.Perm.append_right post List.perm_append_comm
  | _, _, _, m + 1, 0, j, k, .cons (v := v) (A := A) (B := B) h r, _, e1, e2 => by
    have z := Option.some.inj e2
    subst z
    obtain ⟨y, C, pre, post, e3, e4, t, _⟩ := r.at (n := m) e1
    refine ⟨y, v, C, A, e3, rfl, t, h, pre ++ post, ?_⟩
    rw [e4]
    refine (List.Perm.append_right _ List.perm_append_comm).trans ?_
    rw [List.append_assoc]
    refine List.Perm.append_left A ?_
    rw [← List.append_assoc, ← List.append_assoc]
    exact List.Perm.append_right post List.perm_append_comm
  | _, _, _, m + 1, n + 1, j, k, .cons (v := v) (A := A) (B := B) h r, ne, e1, e2 => by
    obtain ⟨x, y, B', C', h1, h2, t1, t2, s⟩ := TrL.two (m := m) (n := n) r (fun z => ne (by rw [z])) e1 e2
    exact ⟨x, y, B', C', h1, h2, t1, t2, s.right⟩
/-- the step that a way takes beneath another one -/
def underP : List Nat → List Nat → Option Nat
  | [], n :: _ => some n
  | m :: r, n :: π => if m = n then underP r π else none
  | _, [] => none
theorem Tr.changed {p : Addr} {o o' : HO} (hp : H p = some o) : ∀ {π0 π : List Nat} {v : V} {t d0 d : Py} {A : List Addr} {w : V}, Tr T F H v t A → A.Nodup → t.getP π0 = some d0 → d0.mut = true → At H v π0 (.ref p) → t.getP π = some d → (π = [] ∨ d.imm = false) →
    (∀ n, underP π0 π = some n → (kidsH o')[n]? = (kidsH o)[n]?) → At H v π w → At (upd H p o') v π w
  | _, [], _, _, _, _, _, _, _, _, _, _, _, _, _, _, a => a
  | [], n :: π, v, t, d0, d, A, w, h, nd, e0, m0, a0, e, hd, kp, ⟨q, o1, x, e1, h1, h2, a⟩ => by
    have hd : d.imm = false := hd.elim (fun z => by cases z) id
    have a0 : V.ref p = v := a0
    rw [← a0] at e1
    cases e1
    rw [hp] at h1
    cases h1
    cases e0
    rw [← a0] at h
    obtain ⟨q, o2, B, eq, rfl, hq, s, r⟩ := h.mut m0
    cases eq
    rw [hp] at hq
    cases hq
    have e' : (match t.kids[n]? with | some k => k.getP π | none => none) = some d := e
    cases z : t.kids[n]? with
    | none => rw [z] at e'; cases e'
    | some k =>
      rw [z] at e'
      obtain ⟨x', C, pre, post, e3, e4, t1, _⟩ := r.at z
      rw [h2] at e3
      cases e3
      rw [← a0]
      refine ⟨p, o', x, rfl, upd_same, (kp n rfl).trans h2, t1.off e' (.inr hd) (fun y => (List.nodup_cons.mp nd).1 ?_) a⟩
      rw [e4]
      exact List.mem_append_right _ (List.mem_append_left _ y)
  | m :: π0, n :: π, v, t, d0, d, A, w, h, nd, e0, m0, ⟨q0, o0, x0, e10, h10, h20, a0⟩, e, hd, kp, ⟨q, o1, x, e1, h1, h2, a⟩ => by
    have hd' : d.imm = false := hd.elim (fun z => by cases z) id
    have e' : (match t.kids[n]? with | some k => k.getP π | none => none) = some d := e
    have e0' : (match t.kids[m]? with | some k => k.getP π0 | none => none) = some d0 := e0
    cases h with
    | leaf _ i => rw [imm_getP i e] at hd'; cases hd'
    | fz _ => cases e'
    | node hq s _ r =>
      rename_i q' o2 A
      cases e1
      cases e10
      rw [hq] at h1 h10
      cases h1
      cases h10
      cases z : t.kids[n]? with
      | none => rw [z] at e'; cases e'
      | some k =>
        rw [z] at e'
        cases z0 : t.kids[m]? with
        | none => rw [z0] at e0'; cases e0'
        | some k0 =>
          rw [z0] at e0'
          have nd' := List.nodup_cons.mp nd
          have kp : ∀ l, (if m = n then underP π0 π else none) = some l → (kidsH o')[l]? = (kidsH o)[l]? := kp
          by_cases mn : m = n
          · subst mn
            rw [z] at z0
            cases z0
            rw [h2] at h20
            cases h20
            obtain ⟨x', C, pre, post, e3, e4, t1, _⟩ := r.at z
            rw [h2] at e3
            cases e3
            have nC : C.Nodup := by
              rw [e4] at nd'
              exact (List.nodup_append.mp (List.nodup_append.mp nd'.2).2.1).1
            have qp : q0 ≠ p := fun y => nd'.1 (by
              rw [e4]
              exact List.mem_append_right _ (List.mem_append_left _ (y ▸ t1.atmem e0' m0 a0)))
            rw [if_pos rfl] at kp
            exact ⟨q0, o0, x0, rfl, by rw [upd_ne qp]; exact hq, h2, Tr.changed (π0 := π0) (π := π) hp t1 nC e0' m0 a0 e' (.inr hd') kp a⟩
          · obtain ⟨y0, y, B, C, e3, e4, t0, t1, su⟩ := r.two mn z0 z
            rw [h20] at e3
            cases e3
            rw [h2] at e4
            cases e4
            have pB : p ∈ B := t0.atmem e0' m0 a0
            have nBC := List.nodup_append.mp (su.nodup nd'.2)
            have qp : q0 ≠ p := fun y => nd'.1 (y ▸ su.mem (List.mem_append_left _ pB))
            exact ⟨q0, o0, x, rfl, by rw [upd_ne qp]; exact hq, h2, t1.off e' (.inr hd') (fun y => nBC.2.2 p pB p y rfl) a⟩
end
end Mr
/-! Dp: the slots stand for the data -/
namespace Mr
open PySem L2

def Sl.isOw : Sl → Bool
  | .ow _ _ => true
  | _ => false
/-- the roots that the slots own -/
def rts : List (Option V) → Rho → Rts
  | x :: σ, s :: ρ => (match x, s with
    | some v, .ow _ t => (v, t) :: rts σ ρ
    | _, _ => rts σ ρ)
  | _, _ => []
theorem rts_no {x : Option V} {s : Sl} (h : s.isOw = false) {σ : List (Option V)} {ρ : Rho} : rts (x :: σ) (s :: ρ) = rts σ ρ := by
  cases x <;> cases s <;> first | rfl | cases h
theorem rts_ow {v : V} {io : Bool} {t : Py} {σ : List (Option V)} {ρ : Rho} : rts (some v :: σ) (.ow io t :: ρ) = (v, t) :: rts σ ρ := rfl
theorem rts_none {s : Sl} {σ : List (Option V)} {ρ : Rho} : rts (none :: σ) (s :: ρ) = rts σ ρ := by cases s <;> rfl
theorem rts_app : ∀ {σ τ : List (Option V)} {ρ ω : Rho}, σ.length = ρ.length → rts (σ ++ τ) (ρ ++ ω) = rts σ ρ ++ rts τ ω
  | [], _, [], _, _ => by cases ‹List (Option V)› <;> rfl
  | x :: σ, τ, s :: ρ, ω, h => by
    have ih := rts_app (σ := σ) (τ := τ) (ρ := ρ) (ω := ω) (Nat.succ.inj h)
    cases hs : s.isOw with
    | false => rw [List.cons_append, List.cons_append, rts_no hs, rts_no hs, ih]
    | true =>
      cases s <;> try cases hs
      cases x with
      | none => rw [List.cons_append, List.cons_append, rts_none, rts_none, ih]
      | some v => rw [List.cons_append, List.cons_append, rts_ow, rts_ow, ih]; rfl
theorem rts_out {s s' : Sl} (h : s.isOw = false) (h' : s'.isOw = false) : ∀ {σ : List (Option V)} {ρ : Rho} {i : Nat}, ρ[i]? = some s' → rts σ (ρ.set i s) = rts σ ρ
  | _, [], _, e => by cases e
  | [], _ :: _, _, _ => by
    rename_i i _
    cases i <;> rfl
  | x :: σ, a :: ρ, 0, e => by
    have z := Option.some.inj e
    subst z
    rw [List.set_cons_zero, rts_no h, rts_no h']
  | x :: σ, a :: ρ, i + 1, e => by
    have ih := rts_out h h' (σ := σ) (ρ := ρ) (i := i) e
    rw [List.set_cons_succ]
    cases ha : a.isOw with
    | false => rw [rts_no ha, rts_no ha, ih]
    | true =>
      cases a <;> try cases ha
      cases x with
      | none => rw [rts_none, rts_none, ih]
      | some v => rw [rts_ow, rts_ow, ih]
theorem rts_put {s' : Sl} (h' : s'.isOw = false) {v : V} {io : Bool} {t : Py} : ∀ {σ : List (Option V)} {ρ : Rho} {i : Nat}, ρ[i]? = some s' → σ[i]? = some (some v) → (rts σ (ρ.set i (.ow io t))).Perm ((v, t) :: rts σ ρ)
  | _, [], _, e, _ => by cases e
  | [], _ :: _, _, _, e => by cases e
  | x :: σ, a :: ρ, 0, e, e2 => by
    have z := Option.some.inj e
    subst z
    have z := Option.some.inj e2
    subst z
    rw [List.set_cons_zero, rts_no h', rts_ow]
  | x :: σ, a :: ρ, i + 1, e, e2 => by
    have ih := rts_put h' (v := v) (io := io) (t := t) (σ := σ) (ρ := ρ) (i := i) e e2
    rw [List.set_cons_succ]
    cases ha : a.isOw with
    | false => rw [rts_no ha, rts_no ha]; exact ih
    | true =>
      cases a <;> try cases ha
      cases x with
      | none => rw [rts_none, rts_none]; exact ih
      | some w => rw [rts_ow, rts_ow]; exact (ih.cons _).trans (List.Perm.swap _ _ _)
theorem rts_take {v : V} {io : Bool} {t : Py} {s : Sl} (h : s.isOw = false) {σ : List (Option V)} {ρ : Rho} {i : Nat} (e : ρ[i]? = some (.ow io t)) (e2 : σ[i]? = some (some v)) : (rts σ ρ).Perm ((v, t) :: rts σ (ρ.set i s)) := by
  have hl : i < ρ.length := (List.getElem?_eq_some_iff.mp e).1
  have q := rts_put (s' := s) h (v := v) (io := io) (t := t) (σ := σ) (ρ := ρ.set i s) (i := i) (by rw [List.getElem?_set_self hl]) e2
  rw [List.set_set] at q
  have z : ρ.set i (.ow io t) = ρ := by
    refine List.ext_getElem? fun j => ?_
    by_cases hj : i = j
    · subst hj; rw [List.getElem?_set_self hl, e]
    · rw [List.getElem?_set_ne hj]
  rw [z] at q
  exact q
theorem rts_sv {s : Sl} (h : s.isOw = false) {x : Option V} : ∀ {σ : List (Option V)} {ρ : Rho} {i : Nat}, ρ[i]? = some s → rts (σ.set i x) ρ = rts σ ρ
  | _, [], _, e => by cases e
  | [], _ :: _, _, _ => by
    rename_i i _
    cases i <;> rfl
  | y :: σ, a :: ρ, 0, e => by
    have z := Option.some.inj e
    subst z
    rw [List.set_cons_zero, rts_no h, rts_no h]
  | y :: σ, a :: ρ, i + 1, e => by
    have ih := rts_sv h (x := x) (σ := σ) (ρ := ρ) (i := i) e
    rw [List.set_cons_succ]
    cases ha : a.isOw with
    | false => rw [rts_no ha, rts_no ha, ih]
    | true =>
      cases a <;> try cases ha
      cases y with
      | none => rw [rts_none, rts_none, ih]
      | some v => rw [rts_ow, rts_ow, ih]
/-- what changes no owner -/
structure Calm (f : Sl → Sl) : Prop where
  ow : ∀ io t, f (.ow io t) = .ow io t
  no : ∀ s, s.isOw = false → (f s).isOw = false
theorem rts_map {f : Sl → Sl} (c : Calm f) : ∀ {σ : List (Option V)} {ρ : Rho}, rts σ (ρ.map f) = rts σ ρ
  | [], ρ => by cases ρ <;> rfl
  | _ :: _, [] => rfl
  | x :: σ, a :: ρ => by
    have ih := rts_map c (σ := σ) (ρ := ρ)
    rw [List.map_cons]
    cases ha : a.isOw with
    | false => rw [rts_no ha, rts_no (c.no a ha), ih]
    | true =>
      cases a <;> try cases ha
      rw [c.ow]
      cases x with
      | none => rw [rts_none, rts_none, ih]
      | some v => rw [rts_ow, rts_ow, ih]

def SlOk (T : Tb) (F H : Hp) (σ : List (Option V)) (i : Nat) : Sl → Prop
  | .no => True
  | .im _ d => ∃ v, σ[i]? = some (some v) ∧ Rep T F v d
  | .ow _ _ => ∃ v, σ[i]? = some (some v)
  | .al j π => ∃ v u, σ[i]? = some (some v) ∧ σ[j]? = some (some u) ∧ At H u π v
/-- the slots stand for the data; X: roots beside them; Φ: what is not ours -/
structure En (T : Tb) (F : Hp) (σ : List (Option V)) (ρ : Rho) (Φ : Frm) (X : Rts) (H : Hp) : Prop where
  fh : Sm F H
  lo : Same T.lo F
  len : σ.length = ρ.length
  sg : ∀ s, T.sg = some s → ∃ τ, σ = s ++ τ
  ph : Out F H Φ
  sl : ∀ (i : Nat) (s : Sl), ρ[i]? = some s → SlOk T F H σ i s
  rt : Sep T F H Φ (X ++ rts σ ρ)
  io : ∀ k v, Φ.io k = some v → σ[k]? = some (some v) ∧ ∃ s, ρ[k]? = some s ∧ s.isIo = true
  lk : ∀ a o, F a = some o → H a = some o ∨ Φ.lk a
  lkx : ∀ a, Φ.lk a → Φ a ≠ none ∨ F a ≠ none

/-- what an expression gives: what stays, a new tree, a part of the slot i's tree -/
inductive Rv where
  | im (d : Py)
  | fr (d : Py)
  | bo (i : Nat) (π : List Nat)
def Rv.rts (v : V) : Rv → Rts
  | .fr d => [(v, d)]
  | _ => []
def Rv.sl : Rv → Sl
  | .im d => .im false d
  | .fr d => .ow false d
  | .bo i π => .al i π
def RR (T : Tb) (F H : Hp) (σ : List (Option V)) (v : V) : Rv → Prop
  | .im d => Rep T F v d
  | .fr _ => True
  | .bo i π => ∃ u, σ[i]? = some (some u) ∧ At H u π v
section
variable {T : Tb} {F F1 F2 F' G H H1 H2 H' : Hp} {Φ : Frm} {X Y : Rts} {σ τ : List (Option V)} {ρ ρ1 ρ2 : Rho} {v : V} {t d : Py} {i j : Nat}
theorem get_app {α : Type} {l k : List α} {i : Nat} {a : α} (h : l[i]? = some a) : (l ++ k)[i]? = some a := by
  rw [List.getElem?_append_left (List.getElem?_eq_some_iff.mp h).1]; exact h
theorem SlOk.app {s : Sl} (h : SlOk T F H σ i s) : SlOk T F H (σ ++ τ) i s := by
  cases s with
  | no => trivial
  | im io d => obtain ⟨v, e, r⟩ := h; exact ⟨v, get_app e, r⟩
  | ow io d => obtain ⟨v, e⟩ := h; exact ⟨v, get_app e⟩
  | al j π => obtain ⟨v, u, e, e2, a⟩ := h; exact ⟨v, u, get_app e, get_app e2, a⟩
theorem SlOk.mono {s : Sl} (e : Same F F') (k : KeepK H H') (h : SlOk T F H σ i s) : SlOk T F' H' σ i s := by
  cases s with
  | no => trivial
  | im io d => obtain ⟨v, q, r⟩ := h; exact ⟨v, q, r.mono e⟩
  | ow io d => exact h
  | al j π => obtain ⟨v, u, q, q2, a⟩ := h; exact ⟨v, u, q, q2, a.keepK k⟩
theorem RR.app {r : Rv} (h : RR T F H σ v r) : RR T F H (σ ++ τ) v r := by
  cases r with
  | im d => exact h
  | fr d => trivial
  | bo i π => obtain ⟨u, e, a⟩ := h; exact ⟨u, get_app e, a⟩
/-- a result is put behind the slots -/
theorem En.push {r : Rv} (I : En T F σ ρ Φ (r.rts v ++ X) H) (h : RR T F H σ v r) : En T F (σ ++ [some v]) (ρ ++ [r.sl]) Φ X H where
  fh := I.fh
  lo := I.lo
  len := by rw [List.length_append, List.length_append, I.len]; rfl
  sg := fun s e => by
    obtain ⟨τ, q⟩ := I.sg s e
    exact ⟨τ ++ [some v], by rw [q, List.append_assoc]⟩
  ph := I.ph
  sl := fun k s e => by
    by_cases hk : k < ρ.length
    · rw [List.getElem?_append_left hk] at e
      exact (I.sl k s e).app
    · have hk2 : k < (ρ ++ [r.sl]).length := (List.getElem?_eq_some_iff.mp e).1
      rw [List.length_append, List.length_singleton] at hk2
      have z : k = ρ.length := by omega
      subst z
      rw [List.getElem?_append_right (Nat.le_refl _), Nat.sub_self] at e
      have e := Option.some.inj e
      subst e
      have ev : (σ ++ [some v])[ρ.length]? = some (some v) := by rw [← I.len, List.getElem?_append_right (Nat.le_refl _), Nat.sub_self]; rfl
      cases r with
      | im d => exact ⟨v, ev, h⟩
      | fr d => exact ⟨v, ev⟩
      | bo i π => obtain ⟨u, e1, a⟩ := h; exact ⟨v, u, ev, get_app e1, a⟩
  rt := by
    rw [rts_app I.len]
    have e : rts [some v] [r.sl] = r.rts v := by cases r <;> rfl
    rw [e]
    refine I.rt.perm ?_
    rw [List.append_assoc]
    refine List.perm_append_comm.trans ?_
    rw [List.append_assoc]
  io := fun k w e => by
    obtain ⟨e1, s, e2, e3⟩ := I.io k w e
    exact ⟨get_app e1, s, get_app e2, e3⟩
  lk := I.lk
  lkx := I.lkx
/-- the roots beside, in another order -/
theorem En.permX (h : X.Perm Y) (I : En T F σ ρ Φ X H) : En T F σ ρ Φ Y H := ⟨I.fh, I.lo, I.len, I.sg, I.ph, I.sl, I.rt.perm (h.append_right _), I.io, I.lk, I.lkx⟩
theorem En.dropX (I : En T F σ ρ Φ (X ++ Y) H) : En T F σ ρ Φ Y H := ⟨I.fh, I.lo, I.len, I.sg, I.ph, I.sl, by
  have := I.rt
  rw [List.append_assoc] at this
  exact this.right, I.io, I.lk, I.lkx⟩
theorem En.dropAll (I : En T F σ ρ Φ X H) : En T F σ ρ Φ [] H := (show En T F σ ρ Φ (X ++ []) H by rw [List.append_nil]; exact I).dropX
/-- a way no longer leads behind n -/
def Sl.cutN (n : Nat) : Sl → Sl
  | .al j π => if j < n then .al j π else .no
  | s => s
def Rho.front (ρ : Rho) (n : Nat) : Rho := (ρ.take n).map (Sl.cutN n)
theorem calm_cutN (n : Nat) : Calm (Sl.cutN n) := ⟨fun _ _ => rfl, fun s h => by
  cases s with
  | al j π => show (if j < n then Sl.al j π else .no).isOw = false; split <;> rfl
  | ow _ _ => cases h
  | _ => rfl⟩
/-- what stands behind the slots is taken off -/
def popR (ρ : Rho) (n : Nat) : Option Rv := match ρ[n]? with
  | some (.im _ d) => some (.im d)
  | some (.ow _ d) => some (.fr d)
  | some (.al i π) => if i < n then some (.bo i π) else none
  | _ => none
theorem io_front {n : Nat} (hn : n = σ.length) (hio : ∀ k v, Φ.io k = some v → k < σ.length) (io : ∀ k v, Φ.io k = some v → (σ ++ τ)[k]? = some (some v) ∧ ∃ s, ρ[k]? = some s ∧ s.isIo = true) : ∀ k v, Φ.io k = some v → σ[k]? = some (some v) ∧ ∃ s, (ρ.front n)[k]? = some s ∧ s.isIo = true := fun k v e => by
  subst hn
  obtain ⟨e1, s, e2, e3⟩ := io k v e
  have hk := hio k v e
  rw [List.getElem?_append_left hk] at e1
  refine ⟨e1, s, ?_, e3⟩
  unfold Rho.front
  rw [List.getElem?_map, List.getElem?_take, if_pos hk, e2]
  cases s with
  | al _ _ => cases e3
  | _ => rfl
theorem En.pop {r : Rv} {n : Nat} (hn : n = σ.length) (I : En T F (σ ++ [some v]) ρ Φ X H) (e : popR ρ n = some r) (sg : ∀ s, T.sg = some s → ∃ τ, σ = s ++ τ) (hio : ∀ k v, Φ.io k = some v → k < σ.length) : En T F σ (ρ.front n) Φ (r.rts v ++ X) H ∧ RR T F H σ v r := by
  subst hn
  have hl : ρ.length = σ.length + 1 := by rw [← I.len, List.length_append]; rfl
  have hlt : σ.length < ρ.length := by omega
  obtain ⟨s, hs⟩ : ∃ s, ρ[σ.length]? = some s := ⟨_, List.getElem?_eq_getElem hlt⟩
  have ρe : ρ = ρ.take σ.length ++ [s] := by
    rw [← List.take_append_drop σ.length ρ]
    congr 1
    · simp
    · refine List.ext_getElem? fun k => ?_
      rw [List.getElem?_drop]
      cases k with
      | zero => simpa using hs
      | succ k => rw [List.getElem?_eq_none (by omega)]; rfl
  have lt : (ρ.take σ.length).length = σ.length := by rw [List.length_take]; omega
  have ok := I.sl σ.length s hs
  have ev : (σ ++ [some v])[σ.length]? = some (some v) := by rw [List.getElem?_append_right (Nat.le_refl _), Nat.sub_self]; rfl
  have er : rts [some v] [s] = r.rts v := by
    unfold popR at e
    rw [hs] at e
    cases s with
    | no => cases e
    | im io d => cases e; rfl
    | ow io d => cases e; rfl
    | al i π =>
      have e : (if i < σ.length then some (Rv.bo i π) else none) = some r := e
      by_cases hi : i < σ.length
      · rw [if_pos hi] at e; cases e; rfl
      · rw [if_neg hi] at e; cases e
  refine ⟨⟨I.fh, I.lo, ?_, sg, I.ph, fun k s' e' => ?_, ?_, io_front rfl hio I.io, I.lk, I.lkx⟩, ?_⟩
  · unfold Rho.front; rw [List.length_map, lt]
  · unfold Rho.front at e'
    rw [List.getElem?_map] at e'
    cases hk : (ρ.take σ.length)[k]? with
    | none => rw [hk] at e'; cases e'
    | some s0 =>
      rw [hk] at e'
      have e' := Option.some.inj e'
      subst e'
      have kl : k < σ.length := by have := (List.getElem?_eq_some_iff.mp hk).1; omega
      have hk' : ρ[k]? = some s0 := by rw [List.getElem?_take] at hk; rw [if_pos kl] at hk; exact hk
      have q := I.sl k s0 hk'
      cases s0 with
      | no => trivial
      | im io d => obtain ⟨w, q1, q2⟩ := q; rw [List.getElem?_append_left kl] at q1; exact ⟨w, q1, q2⟩
      | ow io d => obtain ⟨w, q1⟩ := q; rw [List.getElem?_append_left kl] at q1; exact ⟨w, q1⟩
      | al j π =>
        obtain ⟨w, u, q1, q2, q3⟩ := q
        show SlOk T F H σ k (if j < σ.length then .al j π else .no)
        by_cases hj : j < σ.length
        · rw [if_pos hj]
          rw [List.getElem?_append_left kl] at q1
          rw [List.getElem?_append_left hj] at q2
          exact ⟨w, u, q1, q2, q3⟩
        · rw [if_neg hj]; trivial
  · have q := I.rt
    rw [ρe, rts_app lt.symm, er] at q
    unfold Rho.front
    rw [rts_map (calm_cutN _)]
    refine q.perm ?_
    refine (List.perm_append_comm (l₁ := X)).trans ?_
    refine (List.Perm.append_right X List.perm_append_comm).trans ?_
    rw [List.append_assoc, List.append_assoc]
    exact List.Perm.append_left _ List.perm_append_comm
  · unfold popR at e
    rw [hs] at e
    cases s with
    | no => cases e
    | im io d =>
      cases e
      obtain ⟨w, q1, q2⟩ := ok
      rw [ev] at q1
      cases q1
      exact q2
    | ow io d => cases e; trivial
    | al i π =>
      have e : (if i < σ.length then some (Rv.bo i π) else none) = some r := e
      by_cases hi : i < σ.length
      · rw [if_pos hi] at e
        cases e
        obtain ⟨w, u, q1, q2, q3⟩ := ok
        rw [ev] at q1
        cases q1
        rw [List.getElem?_append_left hi] at q2
        exact ⟨u, q2, q3⟩
      · rw [if_neg hi] at e; cases e
/-! ### a slot's tree is put to what stays -/
def Py.unfz : Py → Py
  | .fz d => d.unfz
  | d => d
theorem Rep.unfz : ∀ {d : Py} {v : V}, Rep T F v d → Rep T F v d.unfz
  | .fz d, v, .fz h => Rep.unfz (d := d) h
  | .non, _, h => h
  | .bl _, _, h => h
  | .int _, _, h => h
  | .str _, _, h => h
  | .tup _, _, h => h
  | .lst _, _, h => h
  | .scr _, _, h => h
  | .dic _ _ _, _, h => h
  | .dit _ _ _, _, h => h
  | .obj _ _ _, _, h => h
mutual
/-- data without marks -/
def Py.plain : Py → Py
  | .fz d => d.plain
  | .tup l => .tup (Py.plainL l)
  | .lst l => .lst (Py.plainL l)
  | .scr l => .scr (Py.plainL l)
  | .dic k ks l => .dic k ks (Py.plainL l)
  | .dit k ks l => .dit k ks (Py.plainL l)
  | .obj c ks l => .obj c ks (Py.plainL l)
  | .non => .non
  | .bl b => .bl b
  | .int i => .int i
  | .str x => .str x
def Py.plainL : List Py → List Py
  | [] => []
  | d :: l => d.plain :: Py.plainL l
end
mutual
theorem Rep.plain : ∀ {v : V} {d : Py}, Rep T F v d → Rep T F v d.plain
  | _, _, .non => by simp only [Py.plain]; exact .non
  | _, _, .bl b => by simp only [Py.plain]; exact .bl b
  | _, _, .int i => by simp only [Py.plain]; exact .int i
  | _, _, .str x => by simp only [Py.plain]; exact .str x
  | _, _, .tup h r => by simp only [Py.plain]; exact .tup h (RepL.plain r)
  | _, _, .lst h r => by simp only [Py.plain]; exact .lst h (RepL.plain r)
  | _, _, .scr h r => by simp only [Py.plain]; exact .scr h (RepL.plain r)
  | _, _, .dic h k r => by simp only [Py.plain]; exact .dic h k (RepL.plain r)
  | _, _, .dit h k r => by simp only [Py.plain]; exact .dit h k (RepL.plain r)
  | _, _, .obj h k r => by simp only [Py.plain]; exact .obj h k (RepL.plain r)
  | _, _, .fz h => by simp only [Py.plain]; exact Rep.plain h
theorem RepL.plain : ∀ {vs : List V} {ds : List Py}, RepL T F vs ds → RepL T F vs (Py.plainL ds)
  | _, _, .nil => by simp only [Py.plainL]; exact .nil
  | _, _, .cons h r => by simp only [Py.plainL]; exact .cons (Rep.plain h) (RepL.plain r)
end
def Sl.thaw (i : Nat) (t : Py) : Sl → Sl
  | .al j π => if j = i then (match t.getP π with
    | some d => if d.imm = true then .no else .im false d.unfz
    | none => .no) else .al j π
  | s => s
def thawP : Option Py → Sl
  | some d => if d.imm = true then .no else .im false d.unfz
  | none => .no
theorem thaw_al {i j : Nat} {t : Py} {π : List Nat} : Sl.thaw i t (.al j π) = if j = i then thawP (t.getP π) else .al j π := by
  show (if j = i then (match t.getP π with | some d => if d.imm = true then Sl.no else .im false d.unfz | none => .no) else .al j π) = _
  cases t.getP π <;> rfl
theorem thawP_ow : ∀ o : Option Py, (thawP o).isOw = false
  | none => rfl
  | some d => by show (if d.imm = true then Sl.no else .im false d.unfz).isOw = false; split <;> rfl
theorem calm_thaw (i : Nat) (t : Py) : Calm (Sl.thaw i t) := ⟨fun _ _ => rfl, fun s h => by
  cases s with
  | al j π =>
    rw [thaw_al]
    split
    · exact thawP_ow _
    · rfl
  | ow _ _ => cases h
  | _ => rfl⟩
def Rho.stay (ρ : Rho) (i : Nat) : Rho := match ρ[i]? with
  | some (.ow io t) => (ρ.map (Sl.thaw i t)).set i (.im io t)
  | _ => ρ
theorem En.stay {io : Bool} (I : En T F σ ρ Φ X H) (e : ρ[i]? = some (.ow io t)) : ∃ F', Same F F' ∧ En T F' σ (ρ.stay i) Φ X H ∧ ρ.stay i = (ρ.map (Sl.thaw i t)).set i (.im io t) ∧
    ∀ {u w : V} {π : List Nat} {d : Py}, σ[i]? = some (some u) → At H u π w → t.getP π = some d → (π = [] ∨ d.imm = false) → Rep T F' w d := by
  obtain ⟨v, hv⟩ := I.sl i _ e
  have hl : i < ρ.length := (List.getElem?_eq_some_iff.mp e).1
  have er : ρ.stay i = (ρ.map (Sl.thaw i t)).set i (.im io t) := by unfold Rho.stay; rw [e]
  have p := rts_take (s := .no) rfl e hv
  have q : Sep T F H Φ ((v, t) :: (X ++ rts σ (ρ.set i .no))) := I.rt.perm ((List.Perm.append_left X p).trans List.perm_middle)
  obtain ⟨F', ex, fh, ph, sp, ⟨A, tr, hA⟩, hF⟩ := q.stay I.fh I.ph
  refine ⟨F', ex, ⟨fh, fun a o z => ex a o (I.lo a o z), ?_, I.sg, ph, fun k s z => ?_, ?_, fun k w z => ?_, fun a o z => (hF a o z).elim (I.lk a o) .inl, fun a z => (I.lkx a z).imp id fun y q => y (by cases e : F a with | none => rfl | some o => rw [ex a o e] at q; cases q)⟩, er, fun {u w π d} hu a e hd => by
    rw [hv] at hu
    cases hu
    obtain ⟨u', B, pre, post, e1, t2, a2, _⟩ := tr.focus e hd
    cases a.one a2
    exact t2.stay ex fun x hx => hA x (by rw [e1]; exact List.mem_append_right _ (List.mem_append_left _ hx))⟩
  · rw [er, List.length_set, List.length_map, I.len]
  · rw [er] at z
    by_cases hk : i = k
    · subst hk
      rw [List.getElem?_set_self (by rw [List.length_map]; exact hl)] at z
      cases z
      exact ⟨v, hv, tr.stay ex hA⟩
    · rw [List.getElem?_set_ne hk, List.getElem?_map] at z
      cases h0 : ρ[k]? with
      | none => rw [h0] at z; cases z
      | some s0 =>
        rw [h0] at z
        have z := Option.some.inj z
        subst z
        have ok := I.sl k s0 h0
        cases s0 with
        | no => trivial
        | im io d => obtain ⟨w, q1, q2⟩ := ok; exact ⟨w, q1, q2.mono ex⟩
        | ow io d => exact ok
        | al j π =>
          obtain ⟨w, u, q1, q2, q3⟩ := ok
          rw [thaw_al]
          by_cases hj : j = i
          · subst hj
            rw [if_pos rfl]
            rw [hv] at q2
            cases q2
            cases hg : t.getP π with
            | none => trivial
            | some d =>
              show SlOk T F' H σ k (if d.imm = true then .no else .im false d.unfz)
              by_cases hi : d.imm = true
              · rw [if_pos hi]; trivial
              · rw [if_neg hi]
                obtain ⟨u', B, pre, post, e1, t2, a2, _⟩ := tr.focus hg (.inr (by simpa using hi))
                cases q3.one a2
                exact ⟨w, q1, (t2.stay ex fun a ha => hA a (by rw [e1]; exact List.mem_append_right _ (List.mem_append_left _ ha))).unfz⟩
          · rw [if_neg hj]
            exact ⟨w, u, q1, q2, q3⟩
  · rw [er]
    have e1 : rts σ ((ρ.map (Sl.thaw i t)).set i (.im io t)) = rts σ (ρ.set i .no) := by
      have z : (ρ.map (Sl.thaw i t)).set i (.im io t) = ((ρ.set i .no).map (Sl.thaw i t)).set i (.im io t) := by
        rw [List.map_set, List.set_set]
      rw [z, rts_out (s' := .no) rfl rfl (by rw [List.getElem?_map, List.getElem?_set_self hl]; rfl), rts_map (calm_thaw i t)]
    rw [e1]
    exact sp
  · obtain ⟨z1, s, z2, z3⟩ := I.io k w z
    rw [er]
    by_cases hk : i = k
    · subst hk
      rw [e] at z2
      cases z2
      exact ⟨z1, _, List.getElem?_set_self (by rw [List.length_map]; exact hl), z3⟩
    · refine ⟨z1, s, ?_, z3⟩
      rw [List.getElem?_set_ne hk, List.getElem?_map, z2]
      cases s with
      | al _ _ => cases z3
      | _ => rfl
theorem grow_lk {p : Addr} {o : HO} {lk : Addr → Prop} (hn : H p = none) (h : ∀ a o, F a = some o → H a = some o ∨ lk a) : ∀ a u, F a = some u → (upd H p o) a = some u ∨ lk a := fun a u e => (h a u e).imp (fun q => by rw [upd_ne (ne_of_none q hn)]; exact q) id
/-- an object grows beside -/
theorem En.grow {p : Addr} {o : HO} (I : En T F σ ρ Φ X H) (hn : H p = none) : En T F σ ρ Φ X (upd H p o) :=
  ⟨sm_grow I.fh hn, I.lo, I.len, I.sg, out_grow I.ph hn, fun k s e => (I.sl k s e).mono (fun a o z => z) (keepK_grow hn), I.rt.grow hn, I.io, grow_lk hn I.lk, I.lkx⟩
/-- a new object of one's own -/
theorem En.alloc {items : Rts} {p : Addr} {o : HO} (I : En T F σ ρ Φ (items ++ X) H) (hn : H p = none) (sh : Shp T o d) (ni : d.imm = false) (ek : kidsH o = items.map (·.1)) (ed : d.kids = items.map (·.2)) : En T F σ ρ Φ ((.ref p, d) :: X) (upd H p o) :=
  ⟨sm_grow I.fh hn, I.lo, I.len, I.sg, out_grow I.ph hn, fun k s e => (I.sl k s e).mono (fun a o z => z) (keepK_grow hn), by
    have q := I.rt
    rw [List.append_assoc] at q
    exact q.alloc I.fh I.ph hn sh ni ek ed, I.io, grow_lk hn I.lk, I.lkx⟩
/-- a root beside is put to what stays -/
theorem En.stayX (I : En T F σ ρ Φ ((v, t) :: X) H) : ∃ F', Same F F' ∧ En T F' σ ρ Φ X H ∧ Rep T F' v t := by
  obtain ⟨F', ex, fh, ph, sp, ⟨A, tr, hA⟩, hF⟩ := I.rt.stay I.fh I.ph
  exact ⟨F', ex, ⟨fh, fun a o z => ex a o (I.lo a o z), I.len, I.sg, ph, fun k s e => (I.sl k s e).mono ex (fun a o z => ⟨o, z, rfl⟩), sp, I.io, fun a o z => (hF a o z).elim (I.lk a o) .inl, fun a z => (I.lkx a z).imp id fun y q => y (by cases e : F a with | none => rfl | some o => rw [ex a o e] at q; cases q)⟩, tr.stay ex hA⟩
/-- a new tuple whose items stay -/
theorem En.tup {p : Addr} {xs : List V} {ds : List Py} (I : En T F σ ρ Φ X H) (hn : H p = none) (r : RepL T F xs ds) : ∃ F', Same F F' ∧ En T F' σ ρ Φ X (upd H p (.tup xs)) ∧ Rep T F' (.ref p) (.tup ds) := by
  have fn := sm_none I.fh hn
  have ex : Same F (upd F p (.tup xs)) := fun a o e => by rw [upd_ne (ne_of_none e fn)]; exact e
  refine ⟨upd F p (.tup xs), ex, ⟨fun a o e => ?_, fun a o z => ex a o (I.lo a o z), I.len, I.sg, fun a o e => ?_, fun k s e => (I.sl k s e).mono ex (keepK_grow hn), ?_, I.io, fun a o e => ?_, fun a z => (I.lkx a z).imp id fun y q => y (by cases e : F a with | none => rfl | some o => rw [ex a o e] at q; cases q)⟩, .tup (.inl (.inl upd_same)) (r.mono ex)⟩
  · by_cases z : a = p
    · subst z; rw [upd_same] at e ⊢; exact .inl e
    · rw [upd_ne z] at e ⊢; exact I.fh a o e
  · have q := I.ph a o e
    have z : a ≠ p := ne_of_none q.1 hn
    rw [upd_ne z, upd_ne z]
    exact q
  · obtain ⟨A, r1, n, f⟩ := I.rt
    have hp : ∀ a ∈ A, a ≠ p := fun a ha z => by
      obtain ⟨u, e, _⟩ := r1.dom a ha
      rw [z, hn] at e
      cases e
    exact ⟨A, r1.keep ex fun a ha => upd_ne (hp a ha), n, fun a ha => ⟨by rw [upd_ne (hp a ha)]; exact (f a ha).1, (f a ha).2⟩⟩
  · by_cases z : a = p
    · subst z; rw [upd_same] at e ⊢; exact .inl e
    · rw [upd_ne z] at e ⊢; exact I.lk a o e
end
end Mr
/-! Dp: mirrors of expressions -/
namespace Mr
open PySem L2

inductive ER where
  | ok (r : Rv) (ρ : Rho)
  | ex (c : Nat) (w : Py) (ρ : Rho)
  | st
abbrev ME := Rho → ER
def ER.bind (x : ER) (k : Rv → Rho → ER) : ER := match x with
  | .ok r ρ => k r ρ
  | .ex c w ρ => .ex c w ρ
  | .st => .st
/-- what an operation on data gives -/
inductive OV where
  | im (d : Py)
  | fr (d : Py)
  | st
def wrap1 (d : Py) : Py := if d.imm = true then d else .fz d.unfz
def Py.wrap (d : Py) : Py := d.setKids (d.kids.map wrap1)
def OV.er (x : OV) (ρ : Rho) : ER := match x with
  | .im d => .ok (.im d) ρ
  | .fr d => .ok (.fr d.wrap) ρ
  | .st => .st
/-- the wish about exceptions -/
abbrev Wx := Value → Option Addr → L2.St → Hp → Prop

def EPost (T : Tb) (W : Wx) (F : Hp) (σ τ : List (Option V)) (Φ : Frm) (Q : VK) : ER → Prop
  | .ok r ρ' => ∀ v F' H', Same F F' → En T F' (σ ++ τ) ρ' Φ (r.rts v) H' → RR T F' H' (σ ++ τ) v r → Q v H'
  | .ex c w ρ' => ∀ d v F' H', Same F F' → En T F' (σ ++ τ) ρ' Φ [] H' → Rep T F' v w → H' d = some (.xd [("what", v)]) → F' d = none → Φ d = none → W (.ref (T.cls c)) (some d) σ H'
  | .st => False
def SE (T : Tb) (W : Wx) (n : Nat) (te : TE) (m : ME) : Prop := ∀ (F H : Hp) (σ τ : List (Option V)) (ρ : Rho) (Φ : Frm) (Q : VK), σ.length = n → En T F (σ ++ τ) ρ Φ [] H → EPost T W F σ τ Φ Q (m ρ) → te σ H Q
/-- tests: what they give is a bool -/
def TPost (T : Tb) (W : Wx) (F : Hp) (σ τ : List (Option V)) (Φ : Frm) (Q : Bool → Hp → Prop) : ER → Prop
  | .ok r ρ' => ∃ b, r = .im (.bl b) ∧ ∀ F' H', Same F F' → En T F' (σ ++ τ) ρ' Φ [] H' → Q b H'
  | .ex c w ρ' => ∀ d v F' H', Same F F' → En T F' (σ ++ τ) ρ' Φ [] H' → Rep T F' v w → H' d = some (.xd [("what", v)]) → F' d = none → Φ d = none → W (.ref (T.cls c)) (some d) σ H'
  | .st => False
def ST (T : Tb) (W : Wx) (n : Nat) (tt : TT) (m : ME) : Prop := ∀ (F H : Hp) (σ τ : List (Option V)) (ρ : Rho) (Φ : Frm) (Q : Bool → Hp → Prop), σ.length = n → En T F (σ ++ τ) ρ Φ [] H → TPost T W F σ τ Φ Q (m ρ) → tt σ H Q

section
variable {T : Tb} {W : Wx} {n : Nat} {F F1 F2 F' H H1 H2 H' : Hp} {Φ : Frm} {σ τ : List (Option V)} {ρ ρ1 ρ2 : Rho} {Q : VK} {X : Rts} {v : V}
theorem EPost.mono (s : Same F F1) : ∀ {x : ER}, EPost T W F σ τ Φ Q x → EPost T W F1 σ τ Φ Q x
  | .ok r ρ', h => fun v F' H' e => h v F' H' (s.trans e)
  | .ex c w ρ', h => fun d v F' H' e => h d v F' H' (s.trans e)
  | .st, h => h
theorem TPost.mono {Q : Bool → Hp → Prop} (s : Same F F1) : ∀ {x : ER}, TPost T W F σ τ Φ Q x → TPost T W F1 σ τ Φ Q x
  | .ok r ρ', ⟨b, e, h⟩ => ⟨b, e, fun F' H' e => h F' H' (s.trans e)⟩
  | .ex c w ρ', h => fun d v F' H' e => h d v F' H' (s.trans e)
  | .st, h => h
theorem RR.mono {r : Rv} {σ : List (Option V)} (s : Same F F') (k : KeepK H H') (h : RR T F H σ v r) : RR T F' H' σ v r := by
  cases r with
  | im d => exact Rep.mono s h
  | fr d => trivial
  | bo i π => obtain ⟨u, e, a⟩ := h; exact ⟨u, e, a.keepK k⟩
/-- an expression, then the rest -/
theorem se_then {te : TE} {m : ME} (h : SE T W n te m) (hn : σ.length = n) (I : En T F (σ ++ τ) ρ Φ [] H) {k : Rv → Rho → ER} {Q' : VK} (q : EPost T W F σ τ Φ Q ((m ρ).bind k))
    (next : ∀ v r ρ1 F1 H1, Same F F1 → En T F1 (σ ++ τ) ρ1 Φ (r.rts v) H1 → RR T F1 H1 (σ ++ τ) v r → EPost T W F1 σ τ Φ Q (k r ρ1) → Q' v H1) : te σ H Q' := by
  refine h F H σ τ ρ Φ Q' hn I ?_
  cases e : m ρ with
  | st => rw [e] at q; exact q
  | ex c w ρ' => rw [e] at q; exact q
  | ok r ρ1 =>
    rw [e] at q
    exact fun v F1 H1 s I1 rr => next v r ρ1 F1 H1 s I1 rr (EPost.mono s q)
theorem st_then {te : TE} {m : ME} {Q : Bool → Hp → Prop} (h : SE T W n te m) (hn : σ.length = n) (I : En T F (σ ++ τ) ρ Φ [] H) {k : Rv → Rho → ER} {Q' : VK} (q : TPost T W F σ τ Φ Q ((m ρ).bind k))
    (next : ∀ v r ρ1 F1 H1, Same F F1 → En T F1 (σ ++ τ) ρ1 Φ (r.rts v) H1 → RR T F1 H1 (σ ++ τ) v r → TPost T W F1 σ τ Φ Q (k r ρ1) → Q' v H1) : te σ H Q' := by
  refine h F H σ τ ρ Φ Q' hn I ?_
  cases e : m ρ with
  | st => rw [e] at q; exact q
  | ex c w ρ' => rw [e] at q; exact q
  | ok r ρ1 =>
    rw [e] at q
    exact fun v F1 H1 s I1 rr => next v r ρ1 F1 H1 s I1 rr (TPost.mono s q)

/-! ### names and constants -/
def varR (i : Nat) (ρ : Rho) : Option Sl → ER
  | some (.im _ d) => .ok (.im d) ρ
  | some (.ow _ _) => .ok (.bo i []) ρ
  | some (.al j π) => .ok (.bo j π) ρ
  | _ => .st
def mVar (i : Nat) : ME := fun ρ => varR i ρ ρ[i]?
theorem get_left {α : Type} {l k : List α} {i : Nat} {a : α} (hi : i < l.length) (h : (l ++ k)[i]? = some a) : l[i]? = some a := by
  rw [List.getElem?_append_left hi] at h; exact h
theorem se_var (i : Nat) (hi : i < n := by decide) : SE T W n (tVar i) (mVar i) := fun F H σ τ ρ Φ Q hn I q => by
  subst hn
  unfold mVar at q
  cases h : ρ[i]? with
  | none => rw [h] at q; exact q.elim
  | some s =>
    rw [h] at q
    have k := I.sl i s h
    cases s with
    | no => exact q.elim
    | im io d =>
      obtain ⟨v, e, r⟩ := k
      exact ⟨v, get_left hi e, q v F H (Same.refl F) I r⟩
    | ow io d =>
      obtain ⟨v, e⟩ := k
      exact ⟨v, get_left hi e, q v F H (Same.refl F) I ⟨v, e, rfl⟩⟩
    | al j π =>
      obtain ⟨v, u, e, e2, a⟩ := k
      exact ⟨v, get_left hi e, q v F H (Same.refl F) I ⟨u, e2, a⟩⟩
def mC (d : Py) : ME := fun ρ => .ok (.im d) ρ
theorem se_c {v : V} {d : Py} (h : ∀ F, Rep T F v d) : SE T W n (tC v) (mC d) := fun F H σ τ ρ Φ Q hn I q => q v F H (Same.refl F) I (h F)
theorem se_int (i : Int) : SE T W n (tC (.int i)) (mC (.int i)) := se_c fun _ => .int i
theorem se_bl (b : Bool) : SE T W n (tC (.bl b)) (mC (.bl b)) := se_c fun _ => .bl b
theorem se_str (x : Str) : SE T W n (tC (.str x)) (mC (.str x)) := se_c fun _ => .str x
theorem se_non : SE T W n (tC .non) (mC .non) := se_c fun _ => .non

/-! ### a value that waits while the next one is reckoned -/
def Rv.stable : Rv → Bool
  | .im _ => true
  | .bo _ [] => true
  | _ => false
/-- the part of a value that lies behind the slots may not be told -/
def Rv.within (n : Nat) : Rv → Bool
  | .bo i _ => decide (i < n)
  | _ => true
def pend2 (m : Nat) (k : Rv → Rv → Rho → ER) (s : Rv) (ρ : Rho) : Option Rv → ER
  | some r => if s.within m = true then k r s (ρ.front m) else .st
  | none => .st
def pend1 (m : Nat) (k : Rv → Rv → Rho → ER) : ER → ER
  | .ok s ρ => pend2 m k s ρ (popR ρ m)
  | .ex c w ρ => .ex c w (ρ.front m)
  | .st => .st
def pend (r : Rv) (mb : ME) (ρ : Rho) (k : Rv → Rv → Rho → ER) : ER := if r.stable = true then (mb ρ).bind (k r) else pend1 ρ.length k (mb (ρ ++ [r.sl]))
theorem En.sgL (I : En T F (σ ++ τ) ρ Φ X H) : ∀ s, T.sg = some s → ∃ τ', σ ++ τ = s ++ τ' := I.sg
theorem En.front {x : Option V} {m : Nat} (hm : m = σ.length) (I : En T F (σ ++ [x]) ρ Φ X H) (sg : ∀ s, T.sg = some s → ∃ τ, σ = s ++ τ) (hio : ∀ k v, Φ.io k = some v → k < σ.length) : En T F σ (ρ.front m) Φ X H := by
  subst hm
  have hl : ρ.length = σ.length + 1 := by rw [← I.len, List.length_append]; rfl
  have lt : (ρ.take σ.length).length = σ.length := by rw [List.length_take]; omega
  refine ⟨I.fh, I.lo, ?_, sg, I.ph, fun k s' e' => ?_, ?_, io_front rfl hio I.io, I.lk, I.lkx⟩
  · unfold Rho.front; rw [List.length_map, lt]
  · unfold Rho.front at e'
    rw [List.getElem?_map] at e'
    cases hk : (ρ.take σ.length)[k]? with
    | none => rw [hk] at e'; cases e'
    | some s0 =>
      rw [hk] at e'
      have e' := Option.some.inj e'
      subst e'
      have kl : k < σ.length := by have := (List.getElem?_eq_some_iff.mp hk).1; omega
      have hk' : ρ[k]? = some s0 := by rw [List.getElem?_take] at hk; rw [if_pos kl] at hk; exact hk
      have q := I.sl k s0 hk'
      cases s0 with
      | no => trivial
      | im io d => obtain ⟨w, q1, q2⟩ := q; exact ⟨w, get_left kl q1, q2⟩
      | ow io d => obtain ⟨w, q1⟩ := q; exact ⟨w, get_left kl q1⟩
      | al j π =>
        obtain ⟨w, u, q1, q2, q3⟩ := q
        show SlOk T F H σ k (if j < σ.length then .al j π else .no)
        by_cases hj : j < σ.length
        · rw [if_pos hj]; exact ⟨w, u, get_left kl q1, get_left hj q2, q3⟩
        · rw [if_neg hj]; trivial
  · have q := I.rt
    rw [← List.take_append_drop σ.length ρ, rts_app lt.symm] at q
    unfold Rho.front
    rw [rts_map (calm_cutN _)]
    rw [← List.append_assoc] at q
    exact q.left
theorem En.hio {σ : List (Option V)} (I : En T F σ ρ Φ X H) : ∀ k v, Φ.io k = some v → k < σ.length := fun k v e => (List.getElem?_eq_some_iff.mp (I.io k v e).1).1
theorem pend_then {tb : TE} {m : ME} {r : Rv} {Q' : VK} (hb : SE T W n tb m) (hn : σ.length = n) (I : En T F (σ ++ τ) ρ Φ (r.rts v) H) (rr : RR T F H (σ ++ τ) v r) {k : Rv → Rv → Rho → ER} (q : EPost T W F σ τ Φ Q (pend r m ρ k))
    (next : ∀ w r' s ρ2 F2 H2, Same F F2 → En T F2 (σ ++ τ) ρ2 Φ (r'.rts v ++ s.rts w) H2 → RR T F2 H2 (σ ++ τ) v r' → RR T F2 H2 (σ ++ τ) w s → EPost T W F2 σ τ Φ Q (k r' s ρ2) → Q' w H2) : tb σ H Q' := by
  unfold pend at q
  by_cases hs : r.stable = true
  · rw [if_pos hs] at q
    have hx : r.rts v = [] := by cases r <;> first | rfl | cases hs
    rw [hx] at I
    refine se_then hb hn I q fun w s ρ2 F2 H2 ex I2 r2 q2 => ?_
    refine next w r s ρ2 F2 H2 ex (by rw [hx]; exact I2) ?_ r2 q2
    cases r with
    | im d => exact Rep.mono ex rr
    | fr d => trivial
    | bo i π =>
      cases π with
      | nil => obtain ⟨u, e, a⟩ := rr; exact ⟨u, e, a⟩
      | cons _ _ => cases hs
  · rw [if_neg hs] at q
    have I' := En.push (X := []) (by rw [List.append_nil]; exact I) rr
    rw [List.append_assoc] at I'
    have el : ρ.length = (σ ++ τ).length := I.len.symm
    refine hb F H σ (τ ++ [some v]) (ρ ++ [r.sl]) Φ Q' hn I' ?_
    cases e : m (ρ ++ [r.sl]) with
    | st => rw [e] at q; exact q
    | ex c w ρ' =>
      rw [e] at q
      exact fun d u F' H' ex I2 => q d u F' H' ex (En.front el (by rw [List.append_assoc]; exact I2) I.sg I.hio)
    | ok s ρ' =>
      rw [e] at q
      have q : EPost T W F σ τ Φ Q (pend2 ρ.length k s ρ' (popR ρ' ρ.length)) := q
      cases ep : popR ρ' ρ.length with
      | none => rw [ep] at q; exact q.elim
      | some r' =>
        rw [ep] at q
        have q : EPost T W F σ τ Φ Q (if s.within ρ.length = true then k r' s (ρ'.front ρ.length) else .st) := q
        by_cases hw : s.within ρ.length = true
        · rw [if_pos hw] at q
          intro w F2 H2 ex I2 r2
          obtain ⟨I3, r3⟩ := En.pop el (by rw [List.append_assoc]; exact I2) ep I.sg I.hio
          refine next w r' s _ F2 H2 ex I3 r3 ?_ (EPost.mono ex q)
          cases s with
          | im d => exact r2
          | fr d => trivial
          | bo i π =>
            obtain ⟨u, e1, a⟩ := r2
            have hi : i < (σ ++ τ).length := by rw [← el]; exact of_decide_eq_true hw
            rw [← List.append_assoc] at e1
            exact ⟨u, get_left hi e1, a⟩
        · rw [if_neg hw] at q; exact q.elim

/-! ### the data of a value -/
def datP (ρ : Rho) (i : Nat) (π : List Nat) : Option Py := match ρ[i]? with
  | some (.ow _ t) => t.getP π
  | some (.im _ t) => if π = [] then some t else none
  | _ => none
def dat (ρ : Rho) : Rv → Option Py
  | .im d => some d
  | .fr d => some d
  | .bo i π => datP ρ i π
theorem Tr.getP (I : Sm F H) {t d : Py} {A : List Addr} {π : List Nat} {u : V} (h : Tr T F H u t A) (e : t.getP π = some d) (a : At H u π v) (hd : π = [] ∨ d.imm = false) : ∃ B pre post, A = pre ++ (B ++ post) ∧ Tr T F H v d B := by
  obtain ⟨u', B, pre, post, e1, t2, a2, _⟩ := h.focus e hd
  cases a.one a2
  exact ⟨B, pre, post, e1, t2⟩
/-- a root's tree, whatever else there is -/
theorem En.root {t : Py} (I : En T F σ ρ Φ ((v, t) :: X) H) : ∃ A, Tr T F H v t A := by
  obtain ⟨A, r, _⟩ := I.rt
  cases r with
  | cons h _ => exact ⟨_, h⟩
theorem En.slot {i : Nat} {io : Bool} {t : Py} {u : V} (I : En T F σ ρ Φ X H) (e : ρ[i]? = some (.ow io t)) (hu : σ[i]? = some (some u)) : ∃ A, Tr T F H u t A := by
  obtain ⟨A, r, _⟩ := I.rt.perm ((List.Perm.append_left X (rts_take (s := .no) rfl e hu)).trans List.perm_middle)
  cases r with
  | cons h _ => exact ⟨_, h⟩
/-- what a value stands for, read -/
theorem RR.read {r : Rv} {d : Py} (I : En T F σ ρ Φ (r.rts v ++ X) H) (h : RR T F H σ v r) (e : dat ρ r = some d) (hd : d.imm = false ∨ (∀ i n π, r ≠ .bo i (n :: π))) : Rep T H v d := by
  cases r with
  | im d' => cases e; exact Rep.monoS I.fh h
  | fr d' =>
    cases e
    obtain ⟨A, t⟩ := En.root (X := X) I
    exact t.rep I.fh
  | bo i π =>
    obtain ⟨u, e1, a⟩ := h
    have e : datP ρ i π = some d := e
    unfold datP at e
    cases hs : ρ[i]? with
    | none => rw [hs] at e; cases e
    | some s =>
      rw [hs] at e
      cases s with
      | no => cases e
      | al j π' => cases e
      | ow io t =>
        obtain ⟨A, tr⟩ := En.slot I hs e1
        have hp : π = [] ∨ d.imm = false := by
          rcases hd with z | z
          · exact .inr z
          · cases π with
            | nil => exact .inl rfl
            | cons n π => exact absurd rfl (z i n π)
        obtain ⟨B, _, _, _, t2⟩ := tr.getP I.fh e a hp
        exact t2.rep I.fh
      | im io t =>
        have e : (if π = [] then some t else none) = some d := e
        by_cases z : π = []
        · rw [if_pos z] at e
          cases e
          subst z
          obtain ⟨w, q1, q2⟩ := I.sl i _ hs
          rw [e1] at q1
          cases q1
          cases a
          exact q2.monoS I.fh
        · rw [if_neg z] at e; cases e
end
end Mr
/-! Dp: operations, arguments, displays -/
namespace Mr
open PySem L2

/-! ### what may be told of a value's data: it stays, or it is a container whose items do -/
def Box (T : Tb) (F H : Hp) (p : Addr) : Py → Prop
  | .lst ds => ∃ xs, H p = some (.lst xs) ∧ RepL T F xs ds
  | .dic _ ks vs => ∃ kvs, Rd H p (.dK kvs) ∧ (kvs.map (·.1) = ks ∧ ks.Nodup) ∧ RepL T F (kvs.map (·.2)) vs
  | .dit _ ks vs => ∃ kvs, Rd H p (.dT kvs) ∧ (kvs.map (·.1) = ks ∧ ks.Nodup) ∧ RepL T F (kvs.map (·.2)) vs
  | .obj c ks vs => ∃ dx fs, H p = some (.ins (T.cls c) dx fs) ∧ fs.map (·.1) = ks ∧ RepL T F (fs.map (·.2)) vs
  | _ => False
def Pk (T : Tb) (F H : Hp) (v : V) (d : Py) : Prop := Rep T F v d ∨ ∃ p, v = .ref p ∧ Box T F H p d
def Py.isFz : Py → Bool
  | .fz _ => true
  | _ => false
/-- its items stay -/
def Py.flatOk : Py → Bool
  | .lst l => l.all fun k => k.imm || k.isFz
  | .dic _ _ l => l.all fun k => k.imm || k.isFz
  | .dit _ _ l => l.all fun k => k.imm || k.isFz
  | .obj _ _ l => l.all fun k => k.imm || k.isFz
  | _ => false
/-- data to be read -/
def datR (ρ : Rho) : Rv → Option Py
  | .im d => some d
  | .fr d => some d
  | .bo i [] => datP ρ i []
  | .bo i (n :: π) => match datP ρ i (n :: π) with
    | some d => if d.imm = true then none else some d
    | none => none
/-- the part of a way behind another way -/
def stripP : List Nat → List Nat → Option (List Nat)
  | [], r => some r
  | _ :: _, [] => none
  | m :: π, n :: r => if m = n then stripP π r else none
def thawO : Option Py → Sl
  | some e => if e.imm = true then .no else .im false e.unfz
  | none => .no
def thawR (d : Py) (s : Sl) : Option (List Nat) → Sl
  | some r => thawO (d.getP r)
  | none => s
def Sl.thawP (i : Nat) (π : List Nat) (d : Py) : Sl → Sl
  | .al j π' => if j = i then thawR d (.al j π') (stripP π π') else .al j π'
  | s => s
def stayA2 (ρ : Rho) (i : Nat) (π : List Nat) (io : Bool) (t : Py) : Option Py → Rho
  | some d => (ρ.map (Sl.thawP i π d)).set i (.ow io (t.putP π (.fz d)))
  | none => ρ
def stayA1 (ρ : Rho) (i : Nat) (π : List Nat) : Option Sl → Rho
  | some (.ow io t) => stayA2 ρ i π io t (t.getP π)
  | _ => ρ
/-- what slot i bears at π is put to what stays -/
def Rho.stayA (ρ : Rho) (i : Nat) : List Nat → Rho
  | [] => ρ.stay i
  | n :: π => stayA1 ρ i (n :: π) ρ[i]?
/-- data to be shared: what can't be shared is put to what stays -/
def flatB (ρ : Rho) (i : Nat) (π : List Nat) : Option Py → Option (Py × Rho)
  | some d => if d.flatOk = true then some (d, ρ) else some (d, ρ.stayA i π)
  | none => none
def flatR (ρ : Rho) : Rv → Option (Py × Rho)
  | .im d => some (d, ρ)
  | .fr d => some (d, ρ)
  | .bo i π => flatB ρ i π (datR ρ (.bo i π))
section
variable {T : Tb} {W : Wx} {n : Nat} {F F1 F2 F' H H1 H2 H' : Hp} {Φ : Frm} {σ τ : List (Option V)} {ρ ρ1 ρ2 : Rho} {Q : VK} {X : Rts} {v : V} {d : Py}
theorem datR_dat {r : Rv} (e : datR ρ r = some d) : dat ρ r = some d ∧ (d.imm = false ∨ ∀ i n π, r ≠ .bo i (n :: π)) := by
  cases r with
  | im d' => exact ⟨e, .inr fun _ _ _ z => by cases z⟩
  | fr d' => exact ⟨e, .inr fun _ _ _ z => by cases z⟩
  | bo i π =>
    cases π with
    | nil => exact ⟨e, .inr fun _ _ _ z => by cases z⟩
    | cons n π =>
      have e : (match datP ρ i (n :: π) with | some d => if d.imm = true then none else some d | none => none) = some d := e
      cases h : datP ρ i (n :: π) with
      | none => rw [h] at e; cases e
      | some d' =>
        rw [h] at e
        have e : (if d'.imm = true then none else some d') = some d := e
        by_cases z : d'.imm = true
        · rw [if_pos z] at e; cases e
        · rw [if_neg z] at e
          cases e
          exact ⟨h, .inl (by simpa using z)⟩
theorem RR.readR {r : Rv} (I : En T F σ ρ Φ (r.rts v ++ X) H) (h : RR T F H σ v r) (e : datR ρ r = some d) : Rep T H v d :=
  let z := datR_dat e
  RR.read I h z.1 z.2
theorem TrL.flat : ∀ {vs : List V} {ds : List Py} {A : List Addr}, TrL T F H vs ds A → (ds.all fun k => k.imm || k.isFz) = true → RepL T F vs ds
  | _, _, _, .nil, _ => .nil
  | _, _, _, .cons h r, e => by
    rw [List.all_cons] at e
    have e := Bool.and_eq_true_iff.mp e
    refine .cons ?_ (TrL.flat r e.2)
    cases h with
    | leaf h _ => exact h
    | fz h => exact .fz h
    | node hp s i r =>
      have z := e.1
      rw [i, Bool.false_or] at z
      cases s <;> cases z
theorem Tr.box {A : List Addr} (h : Tr T F H v d A) (f : d.flatOk = true) : Pk T F H v d := by
  cases h with
  | leaf h _ => exact .inl h
  | fz h => exact .inl (.fz h)
  | node hp s i r =>
    refine .inr ⟨_, rfl, ?_⟩
    cases s with
    | tup => cases f
    | lst => exact ⟨_, hp, r.flat f⟩
    | dic e => exact ⟨_, .inl hp, e, r.flat f⟩
    | dit e => exact ⟨_, .inl hp, e, r.flat f⟩
    | dicL e => exact ⟨_, .inr ⟨_, hp⟩, e, r.flat f⟩
    | ditL e => exact ⟨_, .inr ⟨_, hp⟩, e, r.flat f⟩
    | obj e => exact ⟨_, _, hp, e, r.flat f⟩
theorem rep_at {i : Nat} {t : Py} {π : List Nat} {u : V} {A : List Addr} (ex : Same F F') (tr : Tr T F H u t A) (hA : ∀ a ∈ A, F' a = H a) (e : t.getP π = some d) (a : At H u π v) (hd : π = [] ∨ d.imm = false) : Rep T F' v d := by
  obtain ⟨u', B, pre, post, e1, t2, a2, _⟩ := tr.focus e hd
  cases a.one a2
  exact t2.stay ex fun x hx => hA x (by rw [e1]; exact List.mem_append_right _ (List.mem_append_left _ hx))
/-- a borrowed part is put to what stays -/
theorem stripP_eq : ∀ {π π' r : List Nat}, stripP π π' = some r → π' = π ++ r
  | [], _, _, e => by cases e; rfl
  | _ :: _, [], _, e => by cases e
  | m :: π, n :: π', r, e => by
    have e : (if m = n then stripP π π' else none) = some r := e
    by_cases h : m = n
    · rw [if_pos h] at e; rw [stripP_eq e, h]; rfl
    · rw [if_neg h] at e; cases e
theorem At.split {H : Hp} : ∀ {π r : List Nat} {u w : V}, At H u (π ++ r) w → ∃ v, At H u π v ∧ At H v r w
  | [], _, u, _, a => ⟨u, rfl, a⟩
  | _ :: π, r, u, w, ⟨q, o, x, e1, h1, h2, a⟩ => by
    obtain ⟨v, a1, a2⟩ := At.split (π := π) a
    exact ⟨v, ⟨q, o, x, e1, h1, h2, a1⟩, a2⟩
theorem thawO_no {o : Option Py} : (thawO o).isOw = false := by
  cases o with
  | none => rfl
  | some e => show (if e.imm = true then Sl.no else .im false e.unfz).isOw = false; split <;> rfl
theorem calm_thawP (i : Nat) (π : List Nat) (d : Py) : Calm (Sl.thawP i π d) := ⟨fun _ _ => rfl, fun s h => by
  cases s with
  | al j π' =>
    show (if j = i then thawR d (.al j π') (stripP π π') else .al j π').isOw = false
    by_cases hj : j = i
    · rw [if_pos hj]
      cases stripP π π' with
      | none => rfl
      | some r => exact thawO_no
    · rw [if_neg hj]; rfl
  | ow _ _ => cases h
  | _ => rfl⟩
/-- a part of a slot's tree is put to what stays -/
theorem En.stayP {i : Nat} {io : Bool} {t : Py} {π : List Nat} {u : V} (I : En T F σ ρ Φ X H) (e : ρ[i]? = some (.ow io t)) (hu : σ[i]? = some (some u)) (hg : t.getP π = some d) (hd : d.imm = false) (a : At H u π v) :
    ∃ F', Same F F' ∧ En T F' σ ((ρ.map (Sl.thawP i π d)).set i (.ow io (t.putP π (.fz d)))) Φ X H ∧ Rep T F' v d := by
  have hl : i < ρ.length := (List.getElem?_eq_some_iff.mp e).1
  have q : Sep T F H Φ ((u, t) :: (X ++ rts σ (ρ.set i .no))) := I.rt.perm ((List.Perm.append_left X (rts_take (s := .no) rfl e hu)).trans List.perm_middle)
  obtain ⟨A0, r, nd, f⟩ := q
  cases r with
  | cons ht rE =>
    rename_i A E
    obtain ⟨v', B, pre, post, e1, t2, a2, put⟩ := ht.focus hg (.inr hd)
    cases a.one a2
    subst e1
    have inA : ∀ x ∈ B, x ∈ (pre ++ (B ++ post)) ++ E := fun x hx => List.mem_append_left _ (List.mem_append_right _ (List.mem_append_left _ hx))
    have ex : Same F fun x => if x ∈ B then H x else F x := fun x o z => by
      show (if x ∈ B then H x else F x) = some o
      rw [if_neg fun y => by rw [(f x (inA x y)).1] at z; cases z]
      exact z
    have rp : Rep T (fun x => if x ∈ B then H x else F x) v d := t2.stay ex fun x hx => if_pos hx
    have nt := (put ex (fun _ _ => rfl) rfl (Tr.fz rp)).1
    have perm0 : (pre ++ (B ++ post) ++ E).Perm (B ++ (pre ++ ([] ++ post) ++ E)) := by
      have h1 : (pre ++ (B ++ post)).Perm (B ++ (pre ++ ([] ++ post))) := by
        rw [← List.append_assoc, List.nil_append, ← List.append_assoc]
        exact List.Perm.append_right post List.perm_append_comm
      refine (List.Perm.append_right E h1).trans ?_
      rw [List.append_assoc]
    obtain ⟨_, n2, n3⟩ := List.nodup_append.mp (perm0.nodup_iff.mp nd)
    have out : ∀ x ∈ pre ++ ([] ++ post) ++ E, x ∉ B ∧ F x = none ∧ Φ x = none := fun x hx => ⟨fun z => n3 x z x hx rfl, f x (perm0.mem_iff.mpr (List.mem_append_right _ hx))⟩
    have sep : Sep T (fun x => if x ∈ B then H x else F x) H Φ ((u, t.putP π (.fz d)) :: (X ++ rts σ (ρ.set i .no))) :=
      ⟨_, .cons nt (rE.keep ex fun _ _ => rfl), n2, fun x hx => ⟨by
        show (if x ∈ B then H x else F x) = none
        rw [if_neg (out x hx).1]; exact (out x hx).2.1, (out x hx).2.2⟩⟩
    refine ⟨fun x => if x ∈ B then H x else F x, ex, ⟨fun x o z => ?_, fun x o z => ex x o (I.lo x o z), ?_, I.sg, fun x o z => ⟨(I.ph x o z).1, ?_⟩, fun k s z => ?_, ?_, fun k w z => ?_, fun x o z => ?_, fun x z => (I.lkx x z).imp id fun y q => y (by cases g : F x with | none => rfl | some o => have w := (ex x o g).symm.trans q; cases w)⟩, rp⟩
    · have z : (if x ∈ B then H x else F x) = some o := z
      by_cases y : x ∈ B
      · rw [if_pos y] at z; exact .inl z
      · rw [if_neg y] at z; exact I.fh x o z
    · rw [List.length_set, List.length_map]; exact I.len
    · show (if x ∈ B then H x else F x) = none
      rw [if_neg fun y => by rw [(f x (inA x y)).2] at z; cases z]
      exact (I.ph x o z).2
    · by_cases hk : i = k
      · subst hk
        rw [List.getElem?_set_self (by rw [List.length_map]; exact hl)] at z
        cases z
        exact ⟨u, hu⟩
      · rw [List.getElem?_set_ne hk, List.getElem?_map] at z
        cases h0 : ρ[k]? with
        | none => rw [h0] at z; cases z
        | some s0 =>
          rw [h0] at z
          have z := Option.some.inj z
          subst z
          have ok := I.sl k s0 h0
          cases s0 with
          | no => trivial
          | im io d => obtain ⟨w, q1, q2⟩ := ok; exact ⟨w, q1, q2.mono ex⟩
          | ow io d => exact ok
          | al j π' =>
            obtain ⟨w, x, q1, q2, q3⟩ := ok
            show SlOk T _ H σ k (if j = i then thawR d (.al j π') (stripP π π') else .al j π')
            by_cases hj : j = i
            · rw [if_pos hj]
              subst hj
              rw [hu] at q2
              cases q2
              cases hs : stripP π π' with
              | none => exact ⟨w, u, q1, hu, q3⟩
              | some r =>
                have eπ := stripP_eq hs
                subst eπ
                obtain ⟨v2, b1, b2⟩ := q3.split
                cases a.one b1
                show SlOk T _ H σ k (thawO (d.getP r))
                cases hr : d.getP r with
                | none => trivial
                | some e =>
                  show SlOk T _ H σ k (if e.imm = true then .no else .im false e.unfz)
                  by_cases he : e.imm = true
                  · rw [if_pos he]; trivial
                  · rw [if_neg he]
                    obtain ⟨w', B', pre', post', g1, g2, g3, _⟩ := t2.focus hr (.inr (by simpa using he))
                    cases b2.one g3
                    exact ⟨w, q1, (g2.stay ex fun y hy => if_pos (by rw [g1]; exact List.mem_append_right _ (List.mem_append_left _ hy))).unfz⟩
            · rw [if_neg hj]
              exact ⟨w, x, q1, q2, q3⟩
    · have hl' : i < (ρ.map (Sl.thawP i π d)).length := by rw [List.length_map]; exact hl
      have z : rts σ ((ρ.map (Sl.thawP i π d)).set i .no) = rts σ (ρ.set i .no) := by
        have z1 : (ρ.map (Sl.thawP i π d)).set i .no = (ρ.set i .no).map (Sl.thawP i π d) := by rw [List.map_set]; rfl
        rw [z1, rts_map (calm_thawP i π d)]
      have pm := rts_put (s' := .no) rfl (v := u) (io := io) (t := t.putP π (.fz d)) (σ := σ) (ρ := (ρ.map (Sl.thawP i π d)).set i .no) (i := i) (List.getElem?_set_self hl') hu
      rw [List.set_set, z] at pm
      refine sep.perm ?_
      refine List.Perm.trans ?_ (List.Perm.append_left X pm.symm)
      exact List.perm_middle.symm
    · obtain ⟨z1, s, z2, z3⟩ := I.io k w z
      by_cases hk : i = k
      · subst hk
        rw [e] at z2
        cases z2
        exact ⟨z1, _, List.getElem?_set_self (by rw [List.length_map]; exact hl), z3⟩
      · refine ⟨z1, s, ?_, z3⟩
        rw [List.getElem?_set_ne hk, List.getElem?_map, z2]
        cases s with
        | al _ _ => cases z3
        | _ => rfl
    · have z : (if x ∈ B then H x else F x) = some o := z
      by_cases y : x ∈ B
      · rw [if_pos y] at z; exact .inl z
      · rw [if_neg y] at z; exact I.lk x o z
theorem stay_bo {i : Nat} {π : List Nat} (I : En T F σ ρ Φ X H) (h : RR T F H σ v (.bo i π)) (e : datR ρ (.bo i π) = some d) : ∃ F', Same F F' ∧ En T F' σ (ρ.stayA i π) Φ X H ∧ Rep T F' v d := by
  obtain ⟨e0, hd⟩ := datR_dat e
  have hd : π = [] ∨ d.imm = false := by
    rcases hd with z | z
    · exact .inr z
    · cases π with
      | nil => exact .inl rfl
      | cons n π => exact absurd rfl (z i n π)
  obtain ⟨u, e1, a⟩ := h
  have e0 : datP ρ i π = some d := e0
  unfold datP at e0
  cases hs : ρ[i]? with
  | none => rw [hs] at e0; cases e0
  | some s =>
    rw [hs] at e0
    cases s with
    | no => cases e0
    | al j π' => cases e0
    | im io t =>
      have e0 : (if π = [] then some t else none) = some d := e0
      by_cases z : π = []
      · rw [if_pos z] at e0
        cases e0
        subst z
        obtain ⟨w, q1, q2⟩ := I.sl i _ hs
        rw [e1] at q1
        cases q1
        cases a
        have er : ρ.stayA i [] = ρ := by show ρ.stay i = ρ; unfold Rho.stay; rw [hs]
        exact ⟨F, Same.refl F, by rw [er]; exact I, q2⟩
      · rw [if_neg z] at e0; cases e0
    | ow io t =>
      cases π with
      | nil =>
        obtain ⟨F', ex, I', _, rp⟩ := I.stay hs
        exact ⟨F', ex, I', rp e1 a e0 hd⟩
      | cons m π =>
        have er : ρ.stayA i (m :: π) = (ρ.map (Sl.thawP i (m :: π) d)).set i (.ow io (t.putP (m :: π) (.fz d))) := by
          show stayA1 ρ i (m :: π) ρ[i]? = _
          rw [hs]
          show stayA2 ρ i (m :: π) io t (t.getP (m :: π)) = _
          rw [show t.getP (m :: π) = some d from e0]; rfl
        rw [er]
        exact I.stayP hs e1 e0 (hd.elim (fun z => by cases z) id) a
/-- a value, shared -/
theorem flat_then {r : Rv} (I : En T F σ ρ Φ (r.rts v ++ X) H) (h : RR T F H σ v r) (e : flatR ρ r = some (d, ρ1)) : ∃ F', Same F F' ∧ En T F' σ ρ1 Φ X H ∧ Pk T F' H v d := by
  cases r with
  | im d' => cases e; exact ⟨F, Same.refl F, I, .inl h⟩
  | fr d' =>
    cases e
    obtain ⟨F', ex, I', r⟩ := En.stayX I
    exact ⟨F', ex, I', .inl r⟩
  | bo i π =>
    have e : flatB ρ i π (datR ρ (.bo i π)) = some (d, ρ1) := e
    cases q : datR ρ (.bo i π) with
    | none => rw [q] at e; cases e
    | some d' =>
      rw [q] at e
      have e : (if d'.flatOk = true then some (d', ρ) else some (d', ρ.stayA i π)) = some (d, ρ1) := e
      by_cases z : d'.flatOk = true
      · rw [if_pos z] at e
        cases e
        refine ⟨F, Same.refl F, I, ?_⟩
        obtain ⟨e0, hd⟩ := datR_dat q
        have hd : π = [] ∨ d.imm = false := by
          rcases hd with y | y
          · exact .inr y
          · cases π with
            | nil => exact .inl rfl
            | cons n π => exact absurd rfl (y i n π)
        obtain ⟨u, e1, a⟩ := h
        have e0 : datP ρ i π = some d := e0
        unfold datP at e0
        cases hs : ρ[i]? with
        | none => rw [hs] at e0; cases e0
        | some s =>
          rw [hs] at e0
          cases s with
          | no => cases e0
          | al j π' => cases e0
          | im io t =>
            have e0 : (if π = [] then some t else none) = some d := e0
            by_cases y : π = []
            · rw [if_pos y] at e0
              cases e0
              subst y
              obtain ⟨w, q1, q2⟩ := I.sl i _ hs
              rw [e1] at q1
              cases q1
              cases a
              exact .inl q2
            · rw [if_neg y] at e0; cases e0
          | ow io t =>
            obtain ⟨A, tr⟩ := En.slot I hs e1
            obtain ⟨B, _, _, _, t2⟩ := tr.getP I.fh e0 a hd
            exact t2.box z
      · rw [if_neg z] at e
        cases e
        obtain ⟨F', ex, I', rp⟩ := stay_bo I h q
        exact ⟨F', ex, I', .inl rp⟩
theorem Pk.mono (e : Same F F') (h : Pk T F H v d) : Pk T F' H v d := by
  rcases h with h | ⟨p, rfl, h⟩
  · exact .inl (h.mono e)
  · refine .inr ⟨p, rfl, ?_⟩
    cases d with
    | lst ds => obtain ⟨xs, h1, r⟩ := h; exact ⟨xs, h1, r.mono e⟩
    | dic _ ks vs => obtain ⟨xs, h1, h2, r⟩ := h; exact ⟨xs, h1, h2, r.mono e⟩
    | dit _ ks vs => obtain ⟨xs, h1, h2, r⟩ := h; exact ⟨xs, h1, h2, r.mono e⟩
    | obj c ks vs => obtain ⟨dx, xs, h1, h2, r⟩ := h; exact ⟨dx, xs, h1, h2, r.mono e⟩
    | _ => exact h.elim
/-! ### what is told of the outcome of an operation -/
def Give (T : Tb) (F H : Hp) (Q : VK) : OV → Prop
  | .im d => (∀ v, Rep T F v d → Q v H) ∧ ∀ ds xs p, d = .tup ds → H p = none → RepL T F xs ds → Q (.ref p) (upd H p (.tup xs))
  | .fr d => ∀ p o, H p = none → Shp T o d → d.imm = false → RepL T F (kidsH o) d.kids → Q (.ref p) (upd H p o)
  | .st => False
theorem wrap1_tr {k : Py} (h : Rep T F v k) : Tr T F H v (wrap1 k) [] := by
  unfold wrap1
  by_cases z : k.imm = true
  · rw [if_pos z]; exact .leaf h z
  · rw [if_neg z]; exact .fz h.unfz
/-- items that stay are roots without a place -/
theorem En.addL : ∀ {xs : List V} {ds : List Py}, En T F σ ρ Φ X H → RepL T F xs ds → En T F σ ρ Φ (xs.zip (ds.map wrap1) ++ X) H
  | _, _, I, .nil => I
  | _, _, I, .cons (v := v) (vs := vs) (d := d) (ds := ds) h r => by
    have I1 := En.addL I r
    refine ⟨I1.fh, I1.lo, I1.len, I1.sg, I1.ph, I1.sl, ?_, I1.io, I1.lk, I1.lkx⟩
    obtain ⟨A, q, n, f⟩ := I1.rt
    exact ⟨A, .cons (wrap1_tr h) q, n, f⟩
theorem zip_fst : ∀ {xs : List V} {ds : List Py}, xs.length = ds.length → (xs.zip ds).map (·.1) = xs
  | [], [], _ => rfl
  | x :: xs, d :: ds, h => by rw [List.zip_cons_cons, List.map_cons, zip_fst (Nat.succ.inj h)]
theorem zip_snd : ∀ {xs : List V} {ds : List Py}, xs.length = ds.length → (xs.zip ds).map (·.2) = ds
  | [], [], _ => rfl
  | x :: xs, d :: ds, h => by rw [List.zip_cons_cons, List.map_cons, zip_snd (Nat.succ.inj h)]
theorem Shp.wrap {o : HO} (s : Shp T o d) (i : d.imm = false) (h : d.isNode = true) (ht : ∀ l, d ≠ .tup l) : Shp T o d.wrap ∧ d.wrap.kids = d.kids.map wrap1 ∧ d.wrap.imm = false := by
  obtain ⟨s1, s2⟩ := s.setKids (d.kids.map wrap1)
  refine ⟨s1, s2, ?_⟩
  cases s with
  | tup => exact absurd rfl (ht _)
  | _ => rfl
theorem Shp.node {o : HO} (s : Shp T o d) : d.isNode = true := by cases s <;> rfl
def OV.noTup : OV → Prop
  | .fr (.tup _) => False
  | _ => True
theorem Give.post (I : En T F (σ ++ τ) ρ Φ X H) {x : OV} (nt : x.noTup) (q : EPost T W F σ τ Φ Q (x.er ρ)) : Give T F H Q x := by
  have I := I.dropAll
  cases x with
  | st => exact q
  | im d =>
    refine ⟨fun v r => q v F H (Same.refl F) I r, fun ds xs p e hn r => ?_⟩
    subst e
    obtain ⟨F', ex, I', rp⟩ := I.tup hn r
    exact q _ F' _ ex I' rp
  | fr d =>
    intro p o hn s i r
    have ht : ∀ l, d ≠ .tup l := fun l z => by subst z; exact nt
    obtain ⟨s1, s2, s3⟩ := s.wrap i s.node ht
    have hl : (kidsH o).length = (d.kids.map wrap1).length := by rw [List.length_map]; exact r.length
    have I2 := En.alloc (items := (kidsH o).zip (d.kids.map wrap1)) (X := []) (I.addL r) hn s1 s3 (zip_fst hl).symm (by rw [s2]; exact (zip_snd hl).symm)
    exact q _ F _ (Same.refl F) I2 trivial
theorem Give.same {Q : VK} (r : Rep T F v d) (q : Give T F H Q (.im d)) : Q v H := q.1 v r
theorem Give.tup {ds : List Py} {xs : List V} {Q : VK} (r : RepL T F xs ds) (q : Give T F H Q (.im (.tup ds))) : ∀ p, H p = none → Q (.ref p) (upd H p (.tup xs)) := fun p n => q.2 ds xs p rfl n r
theorem Give.lst {ds : List Py} {xs : List V} {Q : VK} (r : RepL T F xs ds) (q : Give T F H Q (.fr (.lst ds))) : ∀ p, H p = none → Q (.ref p) (upd H p (.lst xs)) := fun p n => q p (.lst xs) n .lst rfl r
theorem Give.int {i : Int} {Q : VK} (q : Give T F H Q (.im (.int i))) : Q (.int i) H := q.same (.int i)
theorem Give.bl {b : Bool} {Q : VK} (q : Give T F H Q (.im (.bl b))) : Q (.bl b) H := q.same (.bl b)
theorem Give.str {x : Str} {Q : VK} (q : Give T F H Q (.im (.str x))) : Q (.str x) H := q.same (.str x)
/-! ### operations that read, operations that share -/
def R2rd (T : Tb) (r : R2) (f : Py → Py → OV) : Prop := ∀ (F H : Hp) (x y : V) (d e : Py) (Q : VK), Rep T H x d → Rep T H y e → (f d e).noTup ∧ (Give T F H Q (f d e) → r x y H Q)
def R2ok (T : Tb) (r : R2) (f : Py → Py → OV) : Prop := ∀ (F H : Hp) (x y : V) (d e : Py) (Q : VK), Sm F H → Pk T F H x d → Pk T F H y e → (f d e).noTup ∧ (Give T F H Q (f d e) → r x y H Q)
def R1rd (T : Tb) (r : V → Hp → VK → Prop) (f : Py → OV) : Prop := ∀ (F H : Hp) (x : V) (d : Py) (Q : VK), Rep T H x d → (f d).noTup ∧ (Give T F H Q (f d) → r x H Q)
def R1ok (T : Tb) (r : V → Hp → VK → Prop) (f : Py → OV) : Prop := ∀ (F H : Hp) (x : V) (d : Py) (Q : VK), Sm F H → Pk T F H x d → (f d).noTup ∧ (Give T F H Q (f d) → r x H Q)
def op2 (f : Py → Py → OV) (ρ : Rho) : Option Py → Option Py → ER
  | some d, some e => (f d e).er ρ
  | _, _ => .st
def op2s (f : Py → Py → OV) (d : Py) : Option (Py × Rho) → ER
  | some (e, ρ) => (f d e).er ρ
  | none => .st
def op2f (f : Py → Py → OV) (s : Rv) : Option (Py × Rho) → ER
  | some (d, ρ) => op2s f d (flatR ρ s)
  | none => .st
/-- a reading operation -/
def mOp (f : Py → Py → OV) (ma mb : ME) : ME := fun ρ => (ma ρ).bind fun x ρ1 => pend x mb ρ1 fun x y ρ2 => op2 f ρ2 (datR ρ2 x) (datR ρ2 y)
/-- a sharing operation -/
def mOpS (f : Py → Py → OV) (ma mb : ME) : ME := fun ρ => (ma ρ).bind fun x ρ1 => pend x mb ρ1 fun x y ρ2 => op2f f y (flatR ρ2 x)
theorem se_op {r : R2} {f : Py → Py → OV} {ta tb : TE} {ma mb : ME} (hr : R2rd T r f) (ha : SE T W n ta ma) (hb : SE T W n tb mb) : SE T W n (tOp r ta tb) (mOp f ma mb) := fun F H σ τ ρ Φ Q hn I q => by
  refine se_then ha hn I q fun v x ρ1 F1 H1 s1 I1 r1 q1 => ?_
  refine pend_then hb hn I1 r1 q1 fun w x' y ρ2 F2 H2 s2 I2 r2 r3 q2 => ?_
  cases hx : datR ρ2 x' with
  | none => rw [hx] at q2; exact q2.elim
  | some d =>
    cases hy : datR ρ2 y with
    | none => rw [hx, hy] at q2; exact q2.elim
    | some e =>
      rw [hx, hy] at q2
      have z := hr F2 H2 v w d e Q (r2.readR I2 hx) (r3.readR (I2.permX List.perm_append_comm) hy)
      exact z.2 (Give.post I2 z.1 q2)
theorem se_opS {r : R2} {f : Py → Py → OV} {ta tb : TE} {ma mb : ME} (hr : R2ok T r f) (ha : SE T W n ta ma) (hb : SE T W n tb mb) : SE T W n (tOp r ta tb) (mOpS f ma mb) := fun F H σ τ ρ Φ Q hn I q => by
  refine se_then ha hn I q fun v x ρ1 F1 H1 s1 I1 r1 q1 => ?_
  refine pend_then hb hn I1 r1 q1 fun w x' y ρ2 F2 H2 s2 I2 r2 r3 q2 => ?_
  cases hx : flatR ρ2 x' with
  | none => rw [hx] at q2; exact q2.elim
  | some z =>
    obtain ⟨d, ρ3⟩ := z
    rw [hx] at q2
    have q2 : EPost T W F2 σ τ Φ Q (op2s f d (flatR ρ3 y)) := q2
    obtain ⟨F3, s3, I3, p3⟩ := flat_then I2 r2 hx
    cases hy : flatR ρ3 y with
    | none => rw [hy] at q2; exact q2.elim
    | some z =>
      obtain ⟨e, ρ4⟩ := z
      rw [hy] at q2
      have r3' : RR T F3 H2 (σ ++ τ) w y := r3.mono s3 (fun a o e => ⟨o, e, rfl⟩)
      obtain ⟨F4, s4, I4, p4⟩ := flat_then (X := []) (by rw [List.append_nil]; exact I3) r3' hy
      have z := hr F4 H2 v w d e Q I4.fh (p3.mono s4) p4
      exact z.2 (Give.post I4 z.1 (EPost.mono (s3.trans s4) q2))
def op1 (g : Py → OV) (ρ : Rho) : Option Py → ER
  | some d => (g d).er ρ
  | none => .st
def op1f (g : Py → OV) : Option (Py × Rho) → ER
  | some (d, ρ) => (g d).er ρ
  | none => .st
def mUn (f : Py → OV) (ma : ME) : ME := fun ρ => (ma ρ).bind fun x ρ1 => op1 f ρ1 (datR ρ1 x)
def mUnS (f : Py → OV) (ma : ME) : ME := fun ρ => (ma ρ).bind fun x ρ1 => op1f f (flatR ρ1 x)
theorem un_core {r : V → Hp → VK → Prop} {f : Py → OV} (hr : R1rd T r f) {x : Rv} (I : En T F (σ ++ τ) ρ Φ (x.rts v) H) (rr : RR T F H (σ ++ τ) v x) (q : EPost T W F σ τ Φ Q (op1 f ρ (datR ρ x))) : r v H Q := by
  cases hx : datR ρ x with
  | none => rw [hx] at q; exact q.elim
  | some d =>
    rw [hx] at q
    have z := hr F H v d Q (rr.readR (X := []) (by rw [List.append_nil]; exact I) hx)
    exact z.2 (Give.post I z.1 q)
theorem unS_core {r : V → Hp → VK → Prop} {f : Py → OV} (hr : R1ok T r f) {x : Rv} (I : En T F (σ ++ τ) ρ Φ (x.rts v) H) (rr : RR T F H (σ ++ τ) v x) (q : EPost T W F σ τ Φ Q (op1f f (flatR ρ x))) : r v H Q := by
  cases hx : flatR ρ x with
  | none => rw [hx] at q; exact q.elim
  | some z =>
    obtain ⟨d, ρ1⟩ := z
    rw [hx] at q
    obtain ⟨F1, s1, I1, p1⟩ := flat_then (X := []) (by rw [List.append_nil]; exact I) rr hx
    have z := hr F1 H v d Q I1.fh p1
    exact z.2 (Give.post I1 z.1 (EPost.mono s1 q))
theorem se_un {r : V → Hp → VK → Prop} {f : Py → OV} {ta : TE} {ma : ME} (hr : R1rd T r f) (ha : SE T W n ta ma) : SE T W n (tUn r ta) (mUn f ma) := fun F H σ τ ρ Φ Q hn I q => by
  refine se_then ha hn I q fun v x ρ1 F1 H1 s1 I1 r1 q1 => un_core hr I1 r1 q1
theorem se_unS {r : V → Hp → VK → Prop} {f : Py → OV} {ta : TE} {ma : ME} (hr : R1ok T r f) (ha : SE T W n ta ma) : SE T W n (tUn r ta) (mUnS f ma) := fun F H σ τ ρ Φ Q hn I q => by
  refine se_then ha hn I q fun v x ρ1 F1 H1 s1 I1 r1 q1 => unS_core hr I1 r1 q1
end
end Mr
/-! Dp: arguments, displays, built-ins, tests -/
namespace Mr
open PySem L2

/-! ### arguments -/
/-- a value that waits: what stays, a slot's own object, one that lies behind the slots -/
inductive Av where
  | im (d : Py)
  | va (i : Nat)
  | tp
inductive AR where
  | ok (rs : List Av) (ρ : Rho)
  | ex (c : Nat) (w : Py) (ρ : Rho)
  | st
abbrev MA := Rho → AR
def nTp : List Av → Nat
  | [] => 0
  | .tp :: rs => nTp rs + 1
  | _ :: rs => nTp rs
inductive AvL (T : Tb) (F : Hp) (σ : List (Option V)) : List V → List Av → List (Option V) → Prop
  | nil : AvL T F σ [] [] []
  | im {v : V} {d : Py} {vs : List V} {rs : List Av} {tv : List (Option V)} : Rep T F v d → AvL T F σ vs rs tv → AvL T F σ (v :: vs) (.im d :: rs) tv
  | va {v : V} {i : Nat} {vs : List V} {rs : List Av} {tv : List (Option V)} : σ[i]? = some (some v) → AvL T F σ vs rs tv → AvL T F σ (v :: vs) (.va i :: rs) tv
  | tp {v : V} {vs : List V} {rs : List Av} {tv : List (Option V)} : AvL T F σ vs rs tv → AvL T F σ (v :: vs) (.tp :: rs) (some v :: tv)
def APost (T : Tb) (W : Wx) (F : Hp) (σ τ : List (Option V)) (Φ : Frm) (Q : List V → Hp → Prop) : AR → Prop
  | .ok rs ρ' => ∀ vs tv F' H', Same F F' → En T F' (σ ++ τ ++ tv) ρ' Φ [] H' → AvL T F' (σ ++ τ) vs rs tv → Q vs H'
  | .ex c w ρ' => ∀ d v F' H', Same F F' → En T F' (σ ++ τ) ρ' Φ [] H' → Rep T F' v w → H' d = some (.xd [("what", v)]) → F' d = none → Φ d = none → W (.ref (T.cls c)) (some d) σ H'
  | .st => False
def SA (T : Tb) (W : Wx) (n : Nat) (ta : TA) (m : MA) : Prop := ∀ (F H : Hp) (σ τ : List (Option V)) (ρ : Rho) (Φ : Frm) (Q : List V → Hp → Prop), σ.length = n → En T F (σ ++ τ) ρ Φ [] H → APost T W F σ τ Φ Q (m ρ) → ta σ H Q
def aNil : MA := fun ρ => .ok [] ρ
def Rv.av : Rv → Av
  | .im d => .im d
  | .bo i [] => .va i
  | _ => .tp
def aPre (a : Av) : AR → AR
  | .ok rs ρ => .ok (a :: rs) ρ
  | x => x
def avOk (m : Nat) : List Av → Bool
  | [] => true
  | .va i :: rs => decide (i < m) && avOk m rs
  | _ :: rs => avOk m rs
def aPre1 (m : Nat) : AR → AR
  | .ok rs ρ => if avOk m rs = true then .ok (.tp :: rs) ρ else .st
  | .ex c w ρ => .ex c w (ρ.front m)
  | .st => .st
def aCons1 (mr : MA) : ER → AR
  | .ok r ρ => if r.stable = true then aPre r.av (mr ρ) else aPre1 ρ.length (mr (ρ ++ [r.sl]))
  | .ex c w ρ => .ex c w ρ
  | .st => .st
def aCons (me : ME) (mr : MA) : MA := fun ρ => aCons1 mr (me ρ)
def rvT (m : Nat) : Option Sl → Option Rv
  | some (.im _ d) => some (.im d)
  | some (.ow _ d) => some (.fr d)
  | some (.al i π) => if i < m then some (.bo i π) else none
  | _ => none
def consO : Option Rv → Option (List Rv) → Option (List Rv)
  | some r, some l => some (r :: l)
  | _, _ => none
def rvs (ρ : Rho) (m : Nat) : Nat → List Av → Option (List Rv)
  | _, [] => some []
  | k, .im d :: rs => consO (some (.im d)) (rvs ρ m k rs)
  | k, .va i :: rs => consO (some (.bo i [])) (rvs ρ m k rs)
  | k, .tp :: rs => consO (rvT m ρ[k]?) (rvs ρ m (k + 1) rs)
def Rho.frontK (ρ : Rho) (k : Nat) : Rho := if k = 0 then ρ else ρ.front (ρ.length - k)
def aBind1 (k : List Rv → Rho → ER) (ρ : Rho) : Option (List Rv) → ER
  | some l => k l ρ
  | none => .st
def aBind (x : AR) (k : List Rv → Rho → ER) : ER := match x with
  | .ok rs ρ => aBind1 k (ρ.frontK (nTp rs)) (rvs ρ (ρ.length - nTp rs) (ρ.length - nTp rs) rs)
  | .ex c w ρ => .ex c w ρ
  | .st => .st
def rtsL : List V → List Rv → Rts
  | v :: vs, r :: rs => r.rts v ++ rtsL vs rs
  | _, _ => []
inductive RRL (T : Tb) (F H : Hp) (σ : List (Option V)) : List V → List Rv → Prop
  | nil : RRL T F H σ [] []
  | cons {v : V} {r : Rv} {vs : List V} {rs : List Rv} : RR T F H σ v r → RRL T F H σ vs rs → RRL T F H σ (v :: vs) (r :: rs)
section
variable {T : Tb} {W : Wx} {n : Nat} {F F1 F2 F' H H1 H2 H' : Hp} {Φ : Frm} {σ τ : List (Option V)} {ρ ρ1 ρ2 : Rho} {Q : VK} {X : Rts} {v : V} {d : Py}
theorem AvL.mono {vs : List V} {rs : List Av} {tv : List (Option V)} (e : Same F F1) (h : AvL T F σ vs rs tv) : AvL T F1 σ vs rs tv := by
  induction h with
  | nil => exact .nil
  | im h _ ih => exact .im (h.mono e) ih
  | va h _ ih => exact .va h ih
  | tp _ ih => exact .tp ih
theorem AvL.len {vs : List V} {rs : List Av} {tv : List (Option V)} (h : AvL T F σ vs rs tv) : tv.length = nTp rs := by
  induction h with
  | nil => rfl
  | im _ _ ih => exact ih
  | va _ _ ih => exact ih
  | tp _ ih => show _ + 1 = nTp _ + 1; rw [ih]
theorem AvL.temps {vs : List V} {rs : List Av} {tv : List (Option V)} (h : AvL T F (σ ++ τ) vs rs tv) (hr : avOk σ.length rs = true) : AvL T F σ vs rs tv := by
  induction h with
  | nil => exact .nil
  | im h _ ih => exact .im h (ih hr)
  | va h _ ih =>
    have hr := Bool.and_eq_true_iff.mp (show (decide (_ < σ.length) && avOk σ.length _) = true from hr)
    exact .va (get_left (of_decide_eq_true hr.1) h) (ih hr.2)
  | tp _ ih => exact .tp (ih hr)
theorem APost.mono {Q : List V → Hp → Prop} (s : Same F F1) : ∀ {x : AR}, APost T W F σ τ Φ Q x → APost T W F1 σ τ Φ Q x
  | .ok r ρ', h => fun vs tv F' H' e => h vs tv F' H' (s.trans e)
  | .ex c w ρ', h => fun d v F' H' e => h d v F' H' (s.trans e)
  | .st, h => h
theorem sa_nil : SA T W n tNil aNil := fun F H σ τ ρ Φ Q hn I q => q [] [] F H (Same.refl F) (by rw [List.append_nil]; exact I) .nil
theorem sa_cons {te : TE} {tr : TA} {me : ME} {mr : MA} (he : SE T W n te me) (hr : SA T W n tr mr) : SA T W n (tCons te tr) (aCons me mr) := fun F H σ τ ρ Φ Q hn I q => by
  refine he F H σ τ ρ Φ _ hn I ?_
  have q : APost T W F σ τ Φ Q (aCons1 mr (me ρ)) := q
  cases e : me ρ with
  | st => rw [e] at q; exact q
  | ex c w ρ' => rw [e] at q; exact q
  | ok r ρ1 =>
    rw [e] at q
    have q : APost T W F σ τ Φ Q (if r.stable = true then aPre r.av (mr ρ1) else aPre1 ρ1.length (mr (ρ1 ++ [r.sl]))) := q
    intro v F1 H1 s1 I1 r1
    by_cases hs : r.stable = true
    · rw [if_pos hs] at q
      have hx : r.rts v = [] := by cases r <;> first | rfl | cases hs
      rw [hx] at I1
      refine hr F1 H1 σ τ ρ1 Φ _ hn I1 ?_
      cases e2 : mr ρ1 with
      | st => rw [e2] at q; exact q
      | ex c w ρ' => rw [e2] at q; exact fun d u F' H' s2 I2 => q d u F' H' (s1.trans s2) I2
      | ok rs ρ2 =>
        rw [e2] at q
        refine fun vs tv F2 H2 s2 I2 a2 => q (v :: vs) tv F2 H2 (s1.trans s2) I2 ?_
        cases r with
        | im d => exact .im (Rep.mono s2 r1) a2
        | fr d => cases hs
        | bo i π =>
          cases π with
          | nil =>
            obtain ⟨u, e, a⟩ := r1
            cases a
            exact .va e a2
          | cons _ _ => cases hs
    · rw [if_neg hs] at q
      have I' := En.push (X := []) (by rw [List.append_nil]; exact I1) r1
      rw [List.append_assoc] at I'
      have el : ρ1.length = (σ ++ τ).length := I1.len.symm
      refine hr F1 H1 σ (τ ++ [some v]) (ρ1 ++ [r.sl]) Φ _ hn I' ?_
      cases e2 : mr (ρ1 ++ [r.sl]) with
      | st => rw [e2] at q; exact q
      | ex c w ρ' =>
        rw [e2] at q
        exact fun d u F' H' s2 I2 => q d u F' H' (s1.trans s2) (En.front el (by rw [List.append_assoc]; exact I2) I.sg I.hio)
      | ok rs ρ2 =>
        rw [e2] at q
        have q : APost T W F σ τ Φ Q (if avOk ρ1.length rs = true then .ok (.tp :: rs) ρ2 else .st) := q
        by_cases ha : avOk ρ1.length rs = true
        · rw [if_pos ha] at q
          refine fun vs tv F2 H2 s2 I2 a2 => q (v :: vs) (some v :: tv) F2 H2 (s1.trans s2) ?_ (.tp ?_)
          · have z : σ ++ τ ++ some v :: tv = σ ++ (τ ++ [some v]) ++ tv := by simp
            rw [z]; exact I2
          · rw [← List.append_assoc] at a2
            exact a2.temps (by rw [← el]; exact ha)
        · rw [if_neg ha] at q; exact q.elim
/-- all that lies behind the slots is taken off -/
theorem En.frontAll {m : Nat} (hm : m = σ.length) (I : En T F (σ ++ τ) ρ Φ X H) (sg : ∀ s, T.sg = some s → ∃ τ, σ = s ++ τ) (hio : ∀ k v, Φ.io k = some v → k < σ.length) : En T F σ (ρ.front m) Φ (Mr.rts τ (ρ.drop m) ++ X) H := by
  subst hm
  have hl : ρ.length = σ.length + τ.length := by rw [← I.len, List.length_append]
  have lt : (ρ.take σ.length).length = σ.length := by rw [List.length_take]; omega
  refine ⟨I.fh, I.lo, ?_, sg, I.ph, fun k s' e' => ?_, ?_, io_front rfl hio I.io, I.lk, I.lkx⟩
  · unfold Rho.front; rw [List.length_map, lt]
  · unfold Rho.front at e'
    rw [List.getElem?_map] at e'
    cases hk : (ρ.take σ.length)[k]? with
    | none => rw [hk] at e'; cases e'
    | some s0 =>
      rw [hk] at e'
      have e' := Option.some.inj e'
      subst e'
      have kl : k < σ.length := by have := (List.getElem?_eq_some_iff.mp hk).1; omega
      have hk' : ρ[k]? = some s0 := by rw [List.getElem?_take] at hk; rw [if_pos kl] at hk; exact hk
      have q := I.sl k s0 hk'
      cases s0 with
      | no => trivial
      | im io d => obtain ⟨w, q1, q2⟩ := q; exact ⟨w, get_left kl q1, q2⟩
      | ow io d => obtain ⟨w, q1⟩ := q; exact ⟨w, get_left kl q1⟩
      | al j π =>
        obtain ⟨w, u, q1, q2, q3⟩ := q
        show SlOk T F H σ k (if j < σ.length then .al j π else .no)
        by_cases hj : j < σ.length
        · rw [if_pos hj]; exact ⟨w, u, get_left kl q1, get_left hj q2, q3⟩
        · rw [if_neg hj]; trivial
  · have q := I.rt
    rw [← List.take_append_drop σ.length ρ, rts_app lt.symm] at q
    unfold Rho.front
    rw [rts_map (calm_cutN _)]
    refine q.perm ?_
    rw [← List.append_assoc]
    refine (List.perm_append_comm).trans ?_
    rw [← List.append_assoc]
/-- what waits is taken back -/
theorem rvs_ok {S : List (Option V)} {m : Nat} (hm : m = σ.length) (sl : ∀ (i : Nat) (s : Sl), ρ[i]? = some s → SlOk T F H S i s) (hσ : ∀ i : Nat, i < m → S[i]? = σ[i]?) :
    ∀ {vs : List V} {rs : List Av} {tv : List (Option V)} {k : Nat} {l : List Rv}, AvL T F σ vs rs tv → S.drop k = tv → (ρ.drop k).length = tv.length → rvs ρ m k rs = some l → Mr.rts tv (ρ.drop k) = rtsL vs l ∧ RRL T F H σ vs l := by
  intro vs rs tv k l h
  induction h generalizing k l with
  | nil =>
    intro _ _ e
    cases e
    exact ⟨by cases (ρ.drop k) <;> rfl, .nil⟩
  | im hd _ ih =>
    intro h1 h2 e
    rename_i d vs rs tv _
    have e : consO (some (.im d)) (rvs ρ m k rs) = some l := e
    cases q : rvs ρ m k rs with
    | none => rw [q] at e; cases e
    | some l' =>
      rw [q] at e
      cases e
      obtain ⟨i1, i2⟩ := ih h1 h2 q
      exact ⟨i1, .cons hd i2⟩
  | va hv _ ih =>
    intro h1 h2 e
    rename_i i vs rs tv _
    have e : consO (some (.bo i [])) (rvs ρ m k rs) = some l := e
    cases q : rvs ρ m k rs with
    | none => rw [q] at e; cases e
    | some l' =>
      rw [q] at e
      cases e
      obtain ⟨i1, i2⟩ := ih h1 h2 q
      exact ⟨i1, .cons ⟨_, hv, rfl⟩ i2⟩
  | tp _ ih =>
    intro h1 h2 e
    rename_i v vs rs tv _
    have e : consO (rvT m ρ[k]?) (rvs ρ m (k + 1) rs) = some l := e
    have hk : k < ρ.length := by rw [List.length_drop, List.length_cons] at h2; omega
    obtain ⟨s, hs⟩ : ∃ s, ρ[k]? = some s := ⟨_, List.getElem?_eq_getElem hk⟩
    have hd : ρ.drop k = s :: ρ.drop (k + 1) := by
      rw [List.drop_eq_getElem_cons hk]
      rw [List.getElem?_eq_getElem hk] at hs
      cases hs
      rfl
    have hSk : S[k]? = some (some v) := by
      have := congrArg (fun z => z[0]?) h1
      simpa using this
    have h1' : S.drop (k + 1) = tv := by
      have := congrArg (List.drop 1) h1
      rw [List.drop_drop] at this
      simpa using this
    rw [hs] at e
    cases q0 : rvT m (some s) with
    | none => rw [q0] at e; cases e
    | some r =>
      rw [q0] at e
      cases q : rvs ρ m (k + 1) rs with
      | none => rw [q] at e; cases e
      | some l' =>
        rw [q] at e
        cases e
        obtain ⟨i1, i2⟩ := ih h1' (by rw [hd] at h2; simpa using h2) q
        have ok := sl k s hs
        rw [hd]
        cases s with
        | no => cases q0
        | im io d =>
          cases q0
          obtain ⟨w, z1, z2⟩ := ok
          rw [hSk] at z1
          cases z1
          exact ⟨i1, .cons z2 i2⟩
        | ow io d =>
          cases q0
          exact ⟨congrArg ((v, d) :: ·) i1, .cons trivial i2⟩
        | al i π =>
          have q0 : (if i < m then some (Rv.bo i π) else none) = some r := q0
          by_cases hi : i < m
          · rw [if_pos hi] at q0
            cases q0
            obtain ⟨w, u, z1, z2, z3⟩ := ok
            rw [hSk] at z1
            cases z1
            rw [hσ i hi] at z2
            exact ⟨i1, .cons ⟨u, z2, z3⟩ i2⟩
          · rw [if_neg hi] at q0; cases q0
theorem fetch_ok {vs : List V} {rs : List Av} {tv : List (Option V)} {l : List Rv} (I : En T F (σ ++ tv) ρ Φ X H) (a : AvL T F σ vs rs tv) (e : rvs ρ (ρ.length - nTp rs) (ρ.length - nTp rs) rs = some l) (sg : ∀ s, T.sg = some s → ∃ τ, σ = s ++ τ) (hio : ∀ k v, Φ.io k = some v → k < σ.length) : En T F σ (ρ.frontK (nTp rs)) Φ (rtsL vs l ++ X) H ∧ RRL T F H σ vs l := by
  have hk : nTp rs = tv.length := a.len.symm
  have hl : ρ.length = σ.length + tv.length := by rw [← I.len, List.length_append]
  have hm : ρ.length - nTp rs = σ.length := by omega
  rw [hm] at e
  have h1 : (σ ++ tv).drop σ.length = tv := List.drop_left
  have h2 : (ρ.drop σ.length).length = tv.length := by rw [List.length_drop]; omega
  obtain ⟨q1, q2⟩ := rvs_ok (S := σ ++ tv) rfl I.sl (fun i hi => List.getElem?_append_left hi) a h1 h2 e
  refine ⟨?_, q2⟩
  unfold Rho.frontK
  by_cases z : nTp rs = 0
  · rw [if_pos z]
    have tz : tv = [] := List.eq_nil_of_length_eq_zero (by omega)
    subst tz
    have : rtsL vs l = [] := by rw [← q1]; cases (ρ.drop σ.length) <;> rfl
    rw [this]
    rw [List.append_nil] at I
    exact I
  · rw [if_neg z, hm, ← q1]
    exact I.frontAll rfl sg hio
/-- arguments, then the rest -/
theorem sa_then {ta : TA} {m : MA} (h : SA T W n ta m) (hn : σ.length = n) (I : En T F (σ ++ τ) ρ Φ [] H) {k : List Rv → Rho → ER} {Q' : List V → Hp → Prop} (q : EPost T W F σ τ Φ Q (aBind (m ρ) k))
    (next : ∀ vs l ρ1 F1 H1, Same F F1 → En T F1 (σ ++ τ) ρ1 Φ (rtsL vs l) H1 → RRL T F1 H1 (σ ++ τ) vs l → EPost T W F1 σ τ Φ Q (k l ρ1) → Q' vs H1) : ta σ H Q' := by
  refine h F H σ τ ρ Φ _ hn I ?_
  cases e : m ρ with
  | st => rw [e] at q; exact q
  | ex c w ρ' => rw [e] at q; exact q
  | ok rs ρ1 =>
    rw [e] at q
    intro vs tv F1 H1 s1 I1 a1
    have q : EPost T W F σ τ Φ Q (aBind1 k (ρ1.frontK (nTp rs)) (rvs ρ1 (ρ1.length - nTp rs) (ρ1.length - nTp rs) rs)) := q
    cases e2 : rvs ρ1 (ρ1.length - nTp rs) (ρ1.length - nTp rs) rs with
    | none => rw [e2] at q; exact q.elim
    | some l =>
      rw [e2] at q
      obtain ⟨I2, r2⟩ := fetch_ok I1 a1 e2 I.sg I.hio
      rw [List.append_nil] at I2
      exact next vs l _ F1 H1 s1 I2 r2 (EPost.mono s1 q)
end
end Mr
/-! Dp: displays, built-ins, tests -/
namespace Mr
open PySem L2

/-! ### items of a new object -/
def itmB (ρ : Rho) (i : Nat) (π : List Nat) : Option Py → Option (Py × Rho)
  | some d => if d.imm = true then some (d, ρ) else some (.fz d.unfz, ρ.stayA i π)
  | none => none
def itm (ρ : Rho) : Rv → Option (Py × Rho)
  | .im d => some (wrap1 d, ρ)
  | .fr d => some (d, ρ)
  | .bo i π => itmB ρ i π (datR ρ (.bo i π))
def itms2 (d : Py) : Option (List Py × Rho) → Option (List Py × Rho)
  | some (ds, ρ) => some (d :: ds, ρ)
  | none => none
def itms1 (f : Rho → Option (List Py × Rho)) : Option (Py × Rho) → Option (List Py × Rho)
  | some (d, ρ) => itms2 d (f ρ)
  | none => none
def itms : List Rv → Rho → Option (List Py × Rho)
  | [], ρ => some ([], ρ)
  | r :: rs, ρ => itms1 (itms rs) (itm ρ r)
section
variable {T : Tb} {W : Wx} {n : Nat} {F F1 F2 F' H H1 H2 H' : Hp} {Φ : Frm} {σ τ : List (Option V)} {ρ ρ1 ρ2 : Rho} {Q : VK} {X Y : Rts} {v : V} {d : Py}
theorem RRL.mono {vs : List V} {l : List Rv} (e : Same F F') (h : RRL T F H σ vs l) : RRL T F' H σ vs l := by
  induction h with
  | nil => exact .nil
  | cons h _ ih => exact .cons (h.mono e fun a o z => ⟨o, z, rfl⟩) ih
theorem RRL.length {vs : List V} {l : List Rv} (h : RRL T F H σ vs l) : vs.length = l.length := by
  induction h with
  | nil => rfl
  | cons _ _ ih => rw [List.length_cons, List.length_cons, ih]
theorem En.addX (I : En T F σ ρ Φ X H) (t : Tr T F H v d []) : En T F σ ρ Φ ((v, d) :: X) H := ⟨I.fh, I.lo, I.len, I.sg, I.ph, I.sl, by
  obtain ⟨A, q, n, f⟩ := I.rt
  exact ⟨A, .cons t q, n, f⟩, I.io, I.lk, I.lkx⟩
/-- a slot's own data that can't be written stays -/
theorem imm_bo {i : Nat} {π : List Nat} (I : En T F σ ρ Φ X H) (h : RR T F H σ v (.bo i π)) (e : datR ρ (.bo i π) = some d) (im : d.imm = true) : Rep T F v d := by
  obtain ⟨e0, hd⟩ := datR_dat e
  have hp : π = [] := by
    rcases hd with z | z
    · rw [im] at z; cases z
    · cases π with
      | nil => rfl
      | cons n π => exact absurd rfl (z i n π)
  subst hp
  obtain ⟨u, e1, a⟩ := h
  cases a
  have e0 : datP ρ i [] = some d := e0
  unfold datP at e0
  cases hs : ρ[i]? with
  | none => rw [hs] at e0; cases e0
  | some s =>
    rw [hs] at e0
    cases s with
    | no => cases e0
    | al j π' => cases e0
    | im io t =>
      cases e0
      obtain ⟨w, q1, q2⟩ := I.sl i _ hs
      rw [e1] at q1
      cases q1
      exact q2
    | ow io t =>
      cases e0
      obtain ⟨A, tr⟩ := En.slot I hs e1
      cases tr with
      | leaf h _ => exact h
      | fz _ => cases im
      | node _ _ z _ => rw [im] at z; cases z
theorem itm_ok {r : Rv} (I : En T F σ ρ Φ (r.rts v ++ X) H) (h : RR T F H σ v r) (e : itm ρ r = some (d, ρ1)) : ∃ F', Same F F' ∧ En T F' σ ρ1 Φ ((v, d) :: X) H := by
  cases r with
  | im d' => cases e; exact ⟨F, Same.refl F, En.addX I (wrap1_tr h)⟩
  | fr d' => cases e; exact ⟨F, Same.refl F, I⟩
  | bo i π =>
    have e : itmB ρ i π (datR ρ (.bo i π)) = some (d, ρ1) := e
    cases q : datR ρ (.bo i π) with
    | none => rw [q] at e; cases e
    | some d' =>
      rw [q] at e
      have e : (if d'.imm = true then some (d', ρ) else some (.fz d'.unfz, ρ.stayA i π)) = some (d, ρ1) := e
      by_cases z : d'.imm = true
      · rw [if_pos z] at e
        cases e
        exact ⟨F, Same.refl F, En.addX I (.leaf (imm_bo I h q z) z)⟩
      · rw [if_neg z] at e
        cases e
        obtain ⟨F', ex, I', rp⟩ := stay_bo I h q
        exact ⟨F', ex, En.addX I' (.fz rp.unfz)⟩
theorem itms_ok : ∀ {l : List Rv} {vs : List V} {ds : List Py} {ρ ρ1 : Rho} {F : Hp} {Y : Rts}, En T F σ ρ Φ (rtsL vs l ++ Y) H → RRL T F H σ vs l → itms l ρ = some (ds, ρ1) → ∃ F', Same F F' ∧ En T F' σ ρ1 Φ (vs.zip ds ++ Y) H ∧ vs.length = ds.length
  | [], _, _, _, _, F, _, I, h, e => by
    cases h
    cases e
    exact ⟨F, Same.refl F, I, rfl⟩
  | r :: rs, _, ds, ρ, ρ1, F, Y, I, h, e => by
    cases h with
    | cons h t =>
      rename_i v vs
      have e : itms1 (itms rs) (itm ρ r) = some (ds, ρ1) := e
      cases q : itm ρ r with
      | none => rw [q] at e; cases e
      | some z =>
        obtain ⟨d, ρ2⟩ := z
        rw [q] at e
        have e : itms2 d (itms rs ρ2) = some (ds, ρ1) := e
        cases q2 : itms rs ρ2 with
        | none => rw [q2] at e; cases e
        | some z =>
          obtain ⟨ds', ρ3⟩ := z
          rw [q2] at e
          cases e
          have I : En T F σ ρ Φ (r.rts v ++ (rtsL vs rs ++ Y)) H := by rw [← List.append_assoc]; exact I
          obtain ⟨F2, e2, I2⟩ := itm_ok I h q
          obtain ⟨F3, e3, I3, hl⟩ := itms_ok (l := rs) (Y := (v, d) :: Y) (I2.permX List.perm_middle.symm) (t.mono e2) q2
          exact ⟨F3, e2.trans e3, I3.permX List.perm_middle, by rw [List.length_cons, List.length_cons, hl]⟩
theorem roots_imm : ∀ {vs : List V} {ds : List Py}, En T F σ ρ Φ (vs.zip ds ++ X) H → vs.length = ds.length → Py.immL ds = true → RepL T F vs ds
  | [], [], _, _, _ => .nil
  | v :: vs, d :: ds, I, hl, im => by
    have im := Bool.and_eq_true_iff.mp (show (d.imm && Py.immL ds) = true from im)
    obtain ⟨A, r, _⟩ := I.rt
    cases r with
    | cons t r =>
      have I' : En T F σ ρ Φ (vs.zip ds ++ X) H := En.dropX (X := [(v, d)]) I
      refine .cons ?_ (roots_imm I' (Nat.succ.inj hl) im.2)
      cases t with
      | leaf h _ => exact h
      | fz _ => cases im.1
      | node _ _ z _ => rw [im.1] at z; cases z
def tupR (ρ : Rho) (ds : List Py) : ER := if ds.length ≤ sizeLine then (if Py.immL ds = true then .ok (.im (.tup ds)) ρ else .ok (.fr (.tup ds)) ρ) else .st
def lstR (ρ : Rho) (ds : List Py) : ER := if ds.length ≤ sizeLine then .ok (.fr (.lst ds)) ρ else .st
def its1 (k : Rho → List Py → ER) : Option (List Py × Rho) → ER
  | some (ds, ρ) => k ρ ds
  | none => .st
def mTup (m : MA) : ME := fun ρ => aBind (m ρ) fun l ρ1 => its1 tupR (itms l ρ1)
def mLst (m : MA) : ME := fun ρ => aBind (m ρ) fun l ρ1 => its1 lstR (itms l ρ1)
theorem se_tup {ta : TA} {m : MA} (h : SA T W n ta m) : SE T W n (tTup ta) (mTup m) := fun F H σ τ ρ Φ Q hn I q => by
  refine sa_then h hn I q fun vs l ρ1 F1 H1 s1 I1 r1 q1 => ?_
  cases e : itms l ρ1 with
  | none => rw [e] at q1; exact q1.elim
  | some z =>
    obtain ⟨ds, ρ2⟩ := z
    rw [e] at q1
    obtain ⟨F2, s2, I2, hl⟩ := itms_ok (Y := []) (by rw [List.append_nil]; exact I1) r1 e
    have q1 : EPost T W F1 σ τ Φ Q (if ds.length ≤ sizeLine then (if Py.immL ds = true then .ok (.im (.tup ds)) ρ2 else .ok (.fr (.tup ds)) ρ2) else .st) := q1
    by_cases hz : ds.length ≤ sizeLine
    · rw [if_pos hz] at q1
      refine ⟨by rw [hl]; exact hz, fun p np => ?_⟩
      by_cases im : Py.immL ds = true
      · rw [if_pos im] at q1
        obtain ⟨F3, s3, I3, rp⟩ := I2.dropAll.tup np (roots_imm I2 hl im)
        exact q1 _ F3 _ (s2.trans s3) I3 rp
      · rw [if_neg im] at q1
        have I3 := En.alloc (X := []) I2 np (.tup (xs := vs) (ds := ds)) (by simpa [Py.imm] using im) (zip_fst hl).symm (zip_snd hl).symm
        exact q1 _ F2 _ s2 I3 trivial
    · rw [if_neg hz] at q1; exact q1.elim
theorem se_lst {ta : TA} {m : MA} (h : SA T W n ta m) : SE T W n (tLst ta) (mLst m) := fun F H σ τ ρ Φ Q hn I q => by
  refine sa_then h hn I q fun vs l ρ1 F1 H1 s1 I1 r1 q1 => ?_
  cases e : itms l ρ1 with
  | none => rw [e] at q1; exact q1.elim
  | some z =>
    obtain ⟨ds, ρ2⟩ := z
    rw [e] at q1
    obtain ⟨F2, s2, I2, hl⟩ := itms_ok (Y := []) (by rw [List.append_nil]; exact I1) r1 e
    have q1 : EPost T W F1 σ τ Φ Q (if ds.length ≤ sizeLine then .ok (.fr (.lst ds)) ρ2 else .st) := q1
    by_cases hz : ds.length ≤ sizeLine
    · rw [if_pos hz] at q1
      refine ⟨by rw [hl]; exact hz, fun p np => ?_⟩
      have I3 := En.alloc (X := []) I2 np (.lst (xs := vs) (ds := ds)) rfl (zip_fst hl).symm (zip_snd hl).symm
      exact q1 _ F2 _ s2 I3 trivial
    · rw [if_neg hz] at q1; exact q1.elim
/-! ### built-ins -/
inductive PkL (T : Tb) (F H : Hp) : List V → List Py → Prop
  | nil : PkL T F H [] []
  | cons {v : V} {d : Py} {vs : List V} {ds : List Py} : Pk T F H v d → PkL T F H vs ds → PkL T F H (v :: vs) (d :: ds)
theorem PkL.mono {vs : List V} {ds : List Py} (e : Same F F') (h : PkL T F H vs ds) : PkL T F' H vs ds := by
  induction h with
  | nil => exact .nil
  | cons h _ ih => exact .cons (h.mono e) ih
def flats1 (f : Rho → Option (List Py × Rho)) : Option (Py × Rho) → Option (List Py × Rho)
  | some (d, ρ) => itms2 d (f ρ)
  | none => none
def flats : List Rv → Rho → Option (List Py × Rho)
  | [], ρ => some ([], ρ)
  | r :: rs, ρ => flats1 (flats rs) (flatR ρ r)
def datsR (ρ : Rho) : List Rv → Option (List Py)
  | [] => some []
  | r :: rs => match datR ρ r, datsR ρ rs with
    | some d, some ds => some (d :: ds)
    | _, _ => none
theorem flats_ok : ∀ {l : List Rv} {vs : List V} {ds : List Py} {ρ ρ1 : Rho} {F : Hp} {Y : Rts}, En T F σ ρ Φ (rtsL vs l ++ Y) H → RRL T F H σ vs l → flats l ρ = some (ds, ρ1) → ∃ F', Same F F' ∧ En T F' σ ρ1 Φ Y H ∧ PkL T F' H vs ds
  | [], _, _, _, _, F, _, I, h, e => by
    cases h
    cases e
    exact ⟨F, Same.refl F, I, .nil⟩
  | r :: rs, _, ds, ρ, ρ1, F, Y, I, h, e => by
    cases h with
    | cons h t =>
      rename_i v vs
      have e : flats1 (flats rs) (flatR ρ r) = some (ds, ρ1) := e
      cases q : flatR ρ r with
      | none => rw [q] at e; cases e
      | some z =>
        obtain ⟨d, ρ2⟩ := z
        rw [q] at e
        have e : itms2 d (flats rs ρ2) = some (ds, ρ1) := e
        cases q2 : flats rs ρ2 with
        | none => rw [q2] at e; cases e
        | some z =>
          obtain ⟨ds', ρ3⟩ := z
          rw [q2] at e
          cases e
          have I : En T F σ ρ Φ (r.rts v ++ (rtsL vs rs ++ Y)) H := by rw [← List.append_assoc]; exact I
          obtain ⟨F2, e2, I2, p2⟩ := flat_then I h q
          obtain ⟨F3, e3, I3, p3⟩ := flats_ok (l := rs) I2 (t.mono e2) q2
          exact ⟨F3, e2.trans e3, I3, .cons (p2.mono e3) p3⟩
theorem datsR_ok : ∀ {l : List Rv} {vs : List V} {ds : List Py} {Y : Rts}, En T F σ ρ Φ (rtsL vs l ++ Y) H → RRL T F H σ vs l → datsR ρ l = some ds → RepL T H vs ds
  | [], _, _, _, I, h, e => by
    cases h
    cases e
    exact .nil
  | r :: rs, _, ds, Y, I, h, e => by
    cases h with
    | cons h t =>
      rename_i v vs
      have e : (match datR ρ r, datsR ρ rs with | some d, some ds => some (d :: ds) | _, _ => none) = some ds := e
      cases q : datR ρ r with
      | none => rw [q] at e; cases e
      | some d =>
        cases q2 : datsR ρ rs with
        | none => rw [q, q2] at e; cases e
        | some ds' =>
          rw [q, q2] at e
          cases e
          have I : En T F σ ρ Φ (r.rts v ++ (rtsL vs rs ++ Y)) H := by rw [← List.append_assoc]; exact I
          exact .cons (h.readR I q) (datsR_ok (l := rs) I.dropX t q2)
def RCrd (T : Tb) (r : List V → Hp → VK → Prop) (f : List Py → OV) : Prop := ∀ (F H : Hp) (xs : List V) (ds : List Py) (Q : VK), RepL T H xs ds → (f ds).noTup ∧ (Give T F H Q (f ds) → r xs H Q)
def RCok (T : Tb) (r : List V → Hp → VK → Prop) (f : List Py → OV) : Prop := ∀ (F H : Hp) (xs : List V) (ds : List Py) (Q : VK), Sm F H → PkL T F H xs ds → (f ds).noTup ∧ (Give T F H Q (f ds) → r xs H Q)
def cb1 (f : List Py → OV) (ρ : Rho) : Option (List Py) → ER
  | some ds => (f ds).er ρ
  | none => .st
def cbS1 (f : List Py → OV) : Option (List Py × Rho) → ER
  | some (ds, ρ) => (f ds).er ρ
  | none => .st
def mCB (f : List Py → OV) (m : MA) : ME := fun ρ => aBind (m ρ) fun l ρ1 => cb1 f ρ1 (datsR ρ1 l)
def mCBS (f : List Py → OV) (m : MA) : ME := fun ρ => aBind (m ρ) fun l ρ1 => cbS1 f (flats l ρ1)
theorem se_cb {r : List V → Hp → VK → Prop} {f : List Py → OV} {ta : TA} {m : MA} (hr : RCrd T r f) (h : SA T W n ta m) : SE T W n (tCB r ta) (mCB f m) := fun F H σ τ ρ Φ Q hn I q => by
  refine sa_then h hn I q fun vs l ρ1 F1 H1 s1 I1 r1 q1 => ?_
  cases e : datsR ρ1 l with
  | none => rw [e] at q1; exact q1.elim
  | some ds =>
    rw [e] at q1
    have z := hr F1 H1 vs ds Q (datsR_ok (Y := []) (by rw [List.append_nil]; exact I1) r1 e)
    exact z.2 (Give.post I1 z.1 q1)
theorem se_cbS {r : List V → Hp → VK → Prop} {f : List Py → OV} {ta : TA} {m : MA} (hr : RCok T r f) (h : SA T W n ta m) : SE T W n (tCB r ta) (mCBS f m) := fun F H σ τ ρ Φ Q hn I q => by
  refine sa_then h hn I q fun vs l ρ1 F1 H1 s1 I1 r1 q1 => ?_
  cases e : flats l ρ1 with
  | none => rw [e] at q1; exact q1.elim
  | some z =>
    obtain ⟨ds, ρ2⟩ := z
    rw [e] at q1
    obtain ⟨F2, s2, I2, p2⟩ := flats_ok (Y := []) (by rw [List.append_nil]; exact I1) r1 e
    have z := hr F2 H1 vs ds Q I2.fh p2
    exact z.2 (Give.post I2 z.1 (EPost.mono s2 q1))
/-! ### tests -/
def Rv.bl? : Rv → Option Bool
  | .im (.bl b) => some b
  | _ => none
theorem bl_eq {r : Rv} {b : Bool} (h : r.bl? = some b) : r = .im (.bl b) := by
  cases r with
  | im d => cases d <;> cases h; rfl
  | fr d => cases h
  | bo i π => cases h
def bR (ρ : Rho) : Option Bool → ER
  | some b => .ok (.im (.bl b)) ρ
  | none => .st
def mB (m : ME) : ME := fun ρ => (m ρ).bind fun r ρ1 => bR ρ1 r.bl?
theorem st_B {te : TE} {m : ME} (h : SE T W n te m) : ST T W n (tB te) (mB m) := fun F H σ τ ρ Φ Q hn I q => by
  refine st_then h hn I q fun v r ρ1 F1 H1 s1 I1 r1 q1 => ?_
  cases hb : r.bl? with
  | none => rw [hb] at q1; exact q1.elim
  | some b =>
    rw [hb] at q1
    cases bl_eq hb
    cases r1
    obtain ⟨b', e, q1⟩ := q1
    cases e
    exact ⟨b, rfl, q1 F1 H1 (Same.refl F1) I1⟩
theorem st_test {te : TE} {m : ME} (h : SE T W n te m) : ST T W n (tTest te) (mB m) := st_B h
/-- a value's truth -/
def pyTruth : Py → Option Bool
  | .non => some false
  | .bl b => some b
  | .int i => some (i != 0)
  | .str x => if x.length ≤ sizeLine then some ((x.length : Int) != 0) else none
  | .tup l => some (!l.isEmpty)
  | .lst l => some (!l.isEmpty)
  | .scr l => some (!l.isEmpty)
  | _ => none
theorem RepL.isEmpty {xs : List V} {ds : List Py} (r : RepL T F xs ds) : xs.isEmpty = ds.isEmpty := by cases r <;> rfl
theorem truv {v : V} {d : Py} {b : Bool} (h : Rep T H v d) (e : pyTruth d = some b) : TruV T.K v H b := by
  cases h with
  | non => exact (Option.some.inj e).symm
  | bl _ => exact (Option.some.inj e).symm
  | int _ => exact (Option.some.inj e).symm
  | str x =>
    have e : (if x.length ≤ sizeLine then some ((x.length : Int) != 0) else none) = some b := e
    by_cases hl : x.length ≤ sizeLine
    · rw [if_pos hl] at e
      exact ⟨hl, (Option.some.inj e).symm⟩
    · rw [if_neg hl] at e; cases e
  | tup hs r => exact .inr (.inl ⟨_, hs, by rw [r.isEmpty]; exact (Option.some.inj e).symm⟩)
  | lst hs r => exact .inl ⟨_, SqL.of hs, by rw [r.isEmpty]; exact (Option.some.inj e).symm⟩
  | scr hs r => exact .inl ⟨_, hs, by rw [r.isEmpty]; exact (Option.some.inj e).symm⟩
  | dic hs k r => cases e
  | dit _ _ _ => cases e
  | obj _ _ _ => cases e
  | fz _ => cases e
def tru1 (ρ : Rho) : Option Py → ER
  | some d => bR ρ (pyTruth d)
  | none => .st
def mTru (m : ME) : ME := fun ρ => (m ρ).bind fun r ρ1 => tru1 ρ1 (datR ρ1 r)
theorem st_tru {te : TE} {m : ME} (h : SE T W n te m) : ST T W n (fun σ H Q => te σ H fun x H' => ∃ k, TruV T.K x H' k ∧ Q k H') (mTru m) := fun F H σ τ ρ Φ Q hn I q => by
  refine st_then h hn I q fun v r ρ1 F1 H1 s1 I1 r1 q1 => ?_
  cases hd : datR ρ1 r with
  | none => rw [hd] at q1; exact q1.elim
  | some d =>
    rw [hd] at q1
    have q1 : TPost T W F1 σ τ Φ Q (bR ρ1 (pyTruth d)) := q1
    cases ht : pyTruth d with
    | none => rw [ht] at q1; exact q1.elim
    | some b =>
      rw [ht] at q1
      obtain ⟨b', e, q1⟩ := q1
      cases e
      exact ⟨b, truv (r1.readR (X := []) (by rw [List.append_nil]; exact I1) hd) ht, q1 F1 H1 (Same.refl F1) I1.dropAll⟩
/-- behind a test's answer -/
def ifE (ma mb : ME) (ρ : Rho) : Option Bool → ER
  | some true => ma ρ
  | some false => mb ρ
  | none => .st
def mIf (mt ma mb : ME) : ME := fun ρ => (mt ρ).bind fun r ρ1 => ifE ma mb ρ1 r.bl?
theorem tt_then {tt : TT} {m : ME} (h : ST T W n tt m) (hn : σ.length = n) (I : En T F (σ ++ τ) ρ Φ [] H) {k : Option Bool → Rho → ER} {Q' : Bool → Hp → Prop} (q : EPost T W F σ τ Φ Q ((m ρ).bind fun r ρ1 => k r.bl? ρ1)) (hk : ∀ ρ1, k none ρ1 = .st)
    (next : ∀ b ρ1 F1 H1, Same F F1 → En T F1 (σ ++ τ) ρ1 Φ [] H1 → EPost T W F1 σ τ Φ Q (k (some b) ρ1) → Q' b H1) : tt σ H Q' := by
  refine h F H σ τ ρ Φ Q' hn I ?_
  cases e : m ρ with
  | st => rw [e] at q; exact q
  | ex c w ρ' => rw [e] at q; exact q
  | ok r ρ1 =>
    rw [e] at q
    have q : EPost T W F σ τ Φ Q (k r.bl? ρ1) := q
    cases hb : r.bl? with
    | none => rw [hb, hk] at q; exact q.elim
    | some b =>
      rw [hb] at q
      exact ⟨b, bl_eq hb, fun F1 H1 s I1 => next b ρ1 F1 H1 s I1 (EPost.mono s q)⟩
theorem ttt_then {tt : TT} {m : ME} {Q : Bool → Hp → Prop} (h : ST T W n tt m) (hn : σ.length = n) (I : En T F (σ ++ τ) ρ Φ [] H) {k : Option Bool → Rho → ER} {Q' : Bool → Hp → Prop} (q : TPost T W F σ τ Φ Q ((m ρ).bind fun r ρ1 => k r.bl? ρ1)) (hk : ∀ ρ1, k none ρ1 = .st)
    (next : ∀ b ρ1 F1 H1, Same F F1 → En T F1 (σ ++ τ) ρ1 Φ [] H1 → TPost T W F1 σ τ Φ Q (k (some b) ρ1) → Q' b H1) : tt σ H Q' := by
  refine h F H σ τ ρ Φ Q' hn I ?_
  cases e : m ρ with
  | st => rw [e] at q; exact q
  | ex c w ρ' => rw [e] at q; exact q
  | ok r ρ1 =>
    rw [e] at q
    have q : TPost T W F σ τ Φ Q (k r.bl? ρ1) := q
    cases hb : r.bl? with
    | none => rw [hb, hk] at q; exact q.elim
    | some b =>
      rw [hb] at q
      exact ⟨b, bl_eq hb, fun F1 H1 s I1 => next b ρ1 F1 H1 s I1 (TPost.mono s q)⟩
theorem se_if {tt : TT} {ta tb : TE} {mt ma mb : ME} (h : ST T W n tt mt) (ha : SE T W n ta ma) (hb : SE T W n tb mb) : SE T W n (tIf tt ta tb) (mIf mt ma mb) := fun F H σ τ ρ Φ Q hn I q => by
  refine tt_then h hn I (k := fun b ρ => ifE ma mb ρ b) q (fun _ => rfl) fun b ρ1 F1 H1 s1 I1 q1 => ?_
  cases b with
  | true => exact ha F1 H1 σ τ ρ1 Φ Q hn I1 q1
  | false => exact hb F1 H1 σ τ ρ1 Φ Q hn I1 q1
def mAndT (mt mu : ME) : ME := fun ρ => (mt ρ).bind fun r ρ1 => ifE mu (mC (.bl false)) ρ1 r.bl?
def mOrT (mt mu : ME) : ME := fun ρ => (mt ρ).bind fun r ρ1 => ifE (mC (.bl true)) mu ρ1 r.bl?
def mNotT (mt : ME) : ME := fun ρ => (mt ρ).bind fun r ρ1 => bR ρ1 (r.bl?.map not)
theorem st_and {t u : TT} {mt mu : ME} (h : ST T W n t mt) (k : ST T W n u mu) : ST T W n (tAnd t u) (mAndT mt mu) := fun F H σ τ ρ Φ Q hn I q => by
  refine ttt_then h hn I (k := fun b ρ => ifE mu (mC (.bl false)) ρ b) q (fun _ => rfl) fun b ρ1 F1 H1 s1 I1 q1 => ?_
  cases b with
  | true => exact k F1 H1 σ τ ρ1 Φ Q hn I1 q1
  | false =>
    obtain ⟨b', e, q1⟩ := q1
    cases e
    exact q1 F1 H1 (Same.refl F1) I1
theorem st_or {t u : TT} {mt mu : ME} (h : ST T W n t mt) (k : ST T W n u mu) : ST T W n (tOr t u) (mOrT mt mu) := fun F H σ τ ρ Φ Q hn I q => by
  refine ttt_then h hn I (k := fun b ρ => ifE (mC (.bl true)) mu ρ b) q (fun _ => rfl) fun b ρ1 F1 H1 s1 I1 q1 => ?_
  cases b with
  | true =>
    obtain ⟨b', e, q1⟩ := q1
    cases e
    exact q1 F1 H1 (Same.refl F1) I1
  | false => exact k F1 H1 σ τ ρ1 Φ Q hn I1 q1
theorem st_not {t : TT} {mt : ME} (h : ST T W n t mt) : ST T W n (tNot t) (mNotT mt) := fun F H σ τ ρ Φ Q hn I q => by
  refine ttt_then h hn I (k := fun b ρ => bR ρ (b.map not)) q (fun _ => rfl) fun b ρ1 F1 H1 s1 I1 q1 => ?_
  obtain ⟨b', e, q1⟩ := q1
  cases e
  exact q1 F1 H1 (Same.refl F1) I1
/-- and, or of values of which all but the last are bools -/
def mAnd (ma mb : ME) : ME := fun ρ => (ma ρ).bind fun r ρ1 => ifE mb (mC (.bl false)) ρ1 r.bl?
def mOr (ma mb : ME) : ME := fun ρ => (ma ρ).bind fun r ρ1 => ifE (mC (.bl true)) mb ρ1 r.bl?
def mNot (ma : ME) : ME := fun ρ => (ma ρ).bind fun r ρ1 => bR ρ1 (r.bl?.map not)
theorem se_bl_then {te : TE} {m : ME} (h : SE T W n te m) (hn : σ.length = n) (I : En T F (σ ++ τ) ρ Φ [] H) {k : Option Bool → Rho → ER} {Q' : VK} (q : EPost T W F σ τ Φ Q ((m ρ).bind fun r ρ1 => k r.bl? ρ1)) (hk : ∀ ρ1, k none ρ1 = .st)
    (next : ∀ b ρ1 F1 H1, Same F F1 → En T F1 (σ ++ τ) ρ1 Φ [] H1 → EPost T W F1 σ τ Φ Q (k (some b) ρ1) → Q' (.bl b) H1) : te σ H Q' := by
  refine se_then h hn I q fun v r ρ1 F1 H1 s1 I1 r1 q1 => ?_
  have q1 : EPost T W F1 σ τ Φ Q (k r.bl? ρ1) := q1
  cases hb : r.bl? with
  | none => rw [hb, hk] at q1; exact q1.elim
  | some b =>
    rw [hb] at q1
    cases bl_eq hb
    cases r1
    exact next b ρ1 F1 H1 s1 I1 q1
theorem se_and {ta tb : TE} {ma mb : ME} (ha : SE T W n ta ma) (hb : SE T W n tb mb) : SE T W n (tAndV ta tb) (mAnd ma mb) := fun F H σ τ ρ Φ Q hn I q => by
  refine se_bl_then ha hn I (k := fun b ρ => ifE mb (mC (.bl false)) ρ b) q (fun _ => rfl) fun b ρ1 F1 H1 s1 I1 q1 => ⟨b, rfl, ?_⟩
  cases b with
  | true => exact hb F1 H1 σ τ ρ1 Φ Q hn I1 q1
  | false => exact q1 _ F1 H1 (Same.refl F1) I1 (.bl false)
theorem se_or {ta tb : TE} {ma mb : ME} (ha : SE T W n ta ma) (hb : SE T W n tb mb) : SE T W n (tOrV ta tb) (mOr ma mb) := fun F H σ τ ρ Φ Q hn I q => by
  refine se_bl_then ha hn I (k := fun b ρ => ifE (mC (.bl true)) mb ρ b) q (fun _ => rfl) fun b ρ1 F1 H1 s1 I1 q1 => ⟨b, rfl, ?_⟩
  cases b with
  | true => exact q1 _ F1 H1 (Same.refl F1) I1 (.bl true)
  | false => exact hb F1 H1 σ τ ρ1 Φ Q hn I1 q1
theorem se_not {ta : TE} {ma : ME} (ha : SE T W n ta ma) : SE T W n (tNotV ta) (mNot ma) := fun F H σ τ ρ Φ Q hn I q => by
  refine se_bl_then ha hn I (k := fun b ρ => bR ρ (b.map not)) q (fun _ => rfl) fun b ρ1 F1 H1 s1 I1 q1 => ⟨b, rfl, ?_⟩
  exact q1 _ F1 H1 (Same.refl F1) I1 (.bl (!b))
end
end Mr
/-! Dp: operations on values -/
namespace Mr
open PySem PySem.Spec PyProof.Rows L2
section
variable {T : Tb} {W : Wx} {n : Nat} {F F' H H' : Hp} {v : V}
theorem Box.rep {p : Addr} {d : Py} (fh : Sm F H) (h : Box T F H p d) : Rep T H (.ref p) d := by
  cases d with
  | lst ds => obtain ⟨xs, h1, r⟩ := h; exact .lst h1 (r.monoS fh)
  | dic _ ks vs => obtain ⟨xs, h1, h2, r⟩ := h; exact .dic h1 h2 (r.monoS fh)
  | dit _ ks vs => obtain ⟨xs, h1, h2, r⟩ := h; exact .dit h1 h2 (r.monoS fh)
  | obj c ks vs => obtain ⟨dx, xs, h1, h2, r⟩ := h; exact .obj h1 h2 (r.monoS fh)
  | _ => exact h.elim
theorem Pk.rep {d : Py} (fh : Sm F H) (h : Pk T F H v d) : Rep T H v d := by
  rcases h with h | ⟨p, rfl, h⟩
  · exact h.monoS fh
  · exact h.rep fh
/-- an operation by its data, shared or read -/
def R2k (T : Tb) (r : R2) (f : Py → Py → OV) : Prop := ∀ (F H : Hp) (x y : V) (d e : Py) (Q : VK), Sm F H → Pk T F H x d → Pk T F H y e → Give T F H Q (f d e) → r x y H Q
def R1k (T : Tb) (r : V → Hp → VK → Prop) (f : Py → OV) : Prop := ∀ (F H : Hp) (x : V) (d : Py) (Q : VK), Sm F H → Pk T F H x d → Give T F H Q (f d) → r x H Q
def RCk (T : Tb) (r : List V → Hp → VK → Prop) (f : List Py → OV) : Prop := ∀ (F H : Hp) (xs : List V) (ds : List Py) (Q : VK), Sm F H → PkL T F H xs ds → Give T F H Q (f ds) → r xs H Q
def OV.atom : OV → Bool
  | .im .non => true
  | .im (.bl _) => true
  | .im (.int _) => true
  | .im (.str _) => true
  | .st => true
  | _ => false
theorem Give.atom {x : OV} {Q : VK} (h : x.atom = true) (q : Give T F H Q x) : Give T H H Q x := by
  cases x with
  | st => exact q
  | fr d => cases h
  | im d =>
    refine ⟨fun v r => q.1 v ?_, fun ds xs p e => ?_⟩
    · cases d with
      | non => cases r; exact .non
      | bl b => cases r; exact .bl b
      | int i => cases r; exact .int i
      | str x => cases r; exact .str x
      | _ => cases h
    · subst e; cases h
theorem atom_nt {x : OV} (h : x.atom = true) : x.noTup := by
  cases x with
  | fr d => cases h
  | _ => trivial
theorem rd2 {r : R2} {f : Py → Py → OV} (h : R2k T r f) (a : ∀ d e, (f d e).atom = true) : R2rd T r f := fun F H x y d e Q p1 p2 => ⟨atom_nt (a d e), fun q => h H H x y d e Q (Sm.refl H) (.inl p1) (.inl p2) (q.atom (a d e))⟩
theorem rd1 {r : V → Hp → VK → Prop} {f : Py → OV} (h : R1k T r f) (a : ∀ d, (f d).atom = true) : R1rd T r f := fun F H x d Q p1 => ⟨atom_nt (a d), fun q => h H H x d Q (Sm.refl H) (.inl p1) (q.atom (a d))⟩
theorem pkl_of {xs : List V} {ds : List Py} (h : RepL T H xs ds) : PkL T H H xs ds := by
  induction ds generalizing xs with
  | nil => cases h; exact .nil
  | cons d ds ih => cases h with | cons h r => exact .cons (.inl h) (ih r)
theorem rdC {r : List V → Hp → VK → Prop} {f : List Py → OV} (h : RCk T r f) (a : ∀ ds, (f ds).atom = true) : RCrd T r f := fun F H xs ds Q p => ⟨atom_nt (a ds), fun q => h H H xs ds Q (Sm.refl H) (pkl_of p) (q.atom (a ds))⟩
theorem sh2 {r : R2} {f : Py → Py → OV} (h : R2k T r f) (a : ∀ d e, (f d e).noTup) : R2ok T r f := fun F H x y d e Q fh p1 p2 => ⟨a d e, h F H x y d e Q fh p1 p2⟩
theorem sh1 {r : V → Hp → VK → Prop} {f : Py → OV} (h : R1k T r f) (a : ∀ d, (f d).noTup) : R1ok T r f := fun F H x d Q fh p1 => ⟨a d, h F H x d Q fh p1⟩
theorem shC {r : List V → Hp → VK → Prop} {f : List Py → OV} (h : RCk T r f) (a : ∀ ds, (f ds).noTup) : RCok T r f := fun F H xs ds Q fh p => ⟨a ds, h F H xs ds Q fh p⟩
/-! ### what a value is, by its data -/
theorem Pk.non (h : Pk T F H v .non) : v = .non := by
  rcases h with h | ⟨p, _, h⟩
  · cases h; rfl
  · exact h.elim
theorem Pk.bl {b : Bool} (h : Pk T F H v (.bl b)) : v = .bl b := by
  rcases h with h | ⟨p, _, h⟩
  · cases h; rfl
  · exact h.elim
theorem Pk.int {i : Int} (h : Pk T F H v (.int i)) : v = .int i := by
  rcases h with h | ⟨p, _, h⟩
  · cases h; rfl
  · exact h.elim
theorem Pk.str {x : Str} (h : Pk T F H v (.str x)) : v = .str x := by
  rcases h with h | ⟨p, _, h⟩
  · cases h; rfl
  · exact h.elim
theorem Pk.tup {l : List Py} (fh : Sm F H) (h : Pk T F H v (.tup l)) : ∃ a xs, v = .ref a ∧ SqT T.K H a xs ∧ RepL T F xs l ∧ Rep T F v (.tup l) := by
  rcases h with h | ⟨p, _, h⟩
  · have h0 := h
    cases h with
    | tup hs r => exact ⟨_, _, rfl, sm_t fh hs, r, h0⟩
  · exact h.elim
theorem Pk.lst {l : List Py} (fh : Sm F H) (h : Pk T F H v (.lst l)) : ∃ a xs, v = .ref a ∧ H a = some (.lst xs) ∧ RepL T F xs l := by
  rcases h with h | ⟨p, rfl, h⟩
  · cases h with
    | lst hs r => exact ⟨_, _, rfl, fh.plain hs fun z => z, r⟩
  · obtain ⟨xs, h1, r⟩ := h
    exact ⟨p, xs, rfl, h1, r⟩
theorem Pk.scr {l : List Py} (fh : Sm F H) (h : Pk T F H v (.scr l)) : ∃ a xs, v = .ref a ∧ SqL T.K H a xs ∧ RepL T F xs l := by
  rcases h with h | ⟨p, _, h⟩
  · cases h with
    | scr hs r => exact ⟨_, _, rfl, sm_l fh hs, r⟩
  · exact h.elim
/-! ### + - * // % ** -/
def pyAdd : Py → Py → OV
  | .int i, .int j => .im (.int (i + j))
  | .str a, .str b => if a.length + b.length ≤ sizeLine then .im (.str (a ++ b)) else .st
  | .tup a, .tup b => if a.length + b.length ≤ sizeLine then .im (.tup (a ++ b)) else .st
  | .lst a, .lst b => if a.length + b.length ≤ sizeLine then .fr (.lst (a ++ b)) else .st
  | _, _ => .st
def rAddA (K : PySem.W.Frag) : R2 := fun x y H Q => rI0 (fun i j => .int (i + j)) x y H Q ∨ (∃ i j, x = .str i ∧ y = .str j ∧ i.length + j.length ≤ sizeLine ∧ Q (.str (i ++ j)) H) ∨ rCatA K x y H Q ∨ rCat x y H Q
theorem op_addA {X : Cx} : OpR X (binaryOp .Add) (rAddA X.K) := OpR.or op_add (OpR.or op_add_str (OpR.or op_catA op_cat))
theorem k2_add : R2k T (rAddA T.K) pyAdd := fun F H x y d e Q fh px py q => by
  cases d <;> cases e <;> try exact q.elim
  · rename_i i j
    exact .inl ⟨i, j, px.int, py.int, q.int⟩
  · rename_i a b
    have q : Give T F H Q (if a.length + b.length ≤ sizeLine then .im (.str (a ++ b)) else .st) := q
    by_cases h : a.length + b.length ≤ sizeLine
    · rw [if_pos h] at q
      exact .inr (.inl ⟨a, b, px.str, py.str, h, q.str⟩)
    · rw [if_neg h] at q; exact q.elim
  · rename_i a b
    have q : Give T F H Q (if a.length + b.length ≤ sizeLine then .im (.tup (a ++ b)) else .st) := q
    by_cases h : a.length + b.length ≤ sizeLine
    · rw [if_pos h] at q
      obtain ⟨p, xs, rfl, hp, rx, r1⟩ := px.tup fh
      obtain ⟨p', ys, rfl, hp', ry, r2⟩ := py.tup fh
      refine .inr (.inr (.inl ⟨p, p', xs, ys, rfl, rfl, hp, hp', by rw [rx.length, ry.length]; exact h, fun e => ?_, fun _ e => ?_, fun _ _ => q.tup (rx.append ry)⟩))
      · subst e
        cases rx
        exact q.same (by rw [List.nil_append]; exact r2)
      · subst e
        cases ry
        exact q.same (by rw [List.append_nil]; exact r1)
    · rw [if_neg h] at q; exact q.elim
  · rename_i a b
    have q : Give T F H Q (if a.length + b.length ≤ sizeLine then .fr (.lst (a ++ b)) else .st) := q
    by_cases h : a.length + b.length ≤ sizeLine
    · rw [if_pos h] at q
      obtain ⟨p, xs, rfl, hp, rx⟩ := px.lst fh
      obtain ⟨p', ys, rfl, hp', ry⟩ := py.lst fh
      exact .inr (.inr (.inr ⟨p, p', xs, ys, rfl, rfl, hp, hp', by rw [rx.length, ry.length]; exact h, q.lst (rx.append ry)⟩))
    · rw [if_neg h] at q; exact q.elim
/-- an operation of ints, under a test -/
def pyII (C : Int → Int → Bool) (g : Int → Int → Py) : Py → Py → OV
  | .int i, .int j => if C i j = true then .im (g i j) else .st
  | _, _ => .st
theorem k2_ii {C : Int → Int → Bool} {C' : Int → Int → Prop} {g : Int → Int → Py} {g' : Int → Int → V} (hc : ∀ i j, C i j = true → C' i j) (hg : ∀ F i j, Rep T F (g' i j) (g i j)) : R2k T (rI C' g') (pyII C g) := fun F H x y d e Q fh px py q => by
  cases d <;> cases e <;> try exact q.elim
  rename_i i j
  have q : Give T F H Q (if C i j = true then .im (g i j) else .st) := q
  by_cases h : C i j = true
  · rw [if_pos h] at q
    exact ⟨i, j, px.int, py.int, hc i j h, q.same (hg F i j)⟩
  · rw [if_neg h] at q; exact q.elim
def pyI0 (g : Int → Int → Py) : Py → Py → OV
  | .int i, .int j => .im (g i j)
  | _, _ => .st
theorem k2_i0 {g : Int → Int → Py} {g' : Int → Int → V} (hg : ∀ F i j, Rep T F (g' i j) (g i j)) : R2k T (rI0 g') (pyI0 g) := fun F H x y d e Q fh px py q => by
  cases d <;> cases e <;> try exact q.elim
  rename_i i j
  exact ⟨i, j, px.int, py.int, q.same (hg F i j)⟩
def pySub := pyI0 fun i j => .int (i - j)
theorem k2_sub : R2k T (rI0 fun i j => .int (i - j)) pySub := k2_i0 fun F i j => .int _
def cMul (i j : Int) : Bool := (decide (-(2 ^ 64) < i) && decide (i < 2 ^ 64)) || (decide (-(2 ^ 64) < j) && decide (j < 2 ^ 64))
/-- * of ints; a list as often as told -/
def pyMul : Py → Py → OV
  | .int i, .int j => if cMul i j = true then .im (.int (i * j)) else .st
  | .lst l, .int k => if -(2 ^ 63) ≤ k ∧ k < 2 ^ 63 ∧ l.length * k.toNat ≤ sizeLine then .fr (.lst (List.replicate k.toNat l).flatten) else .st
  | _, _ => .st
def rMulA : R2 := fun x y H Q => rI CMul (fun i j => .int (i * j)) x y H Q ∨ rRep x y H Q
theorem op_mulA {X : Cx} : OpR X (binaryOp .Mult) rMulA := OpR.or op_mul op_rep
theorem cMul_ok {i j : Int} (h : cMul i j = true) : CMul i j := by
  unfold cMul at h
  rcases (Bool.or_eq_true _ _ ▸ h) with h | h
  · have := Bool.and_eq_true_iff.mp h
    exact .inl ⟨of_decide_eq_true this.1, of_decide_eq_true this.2⟩
  · have := Bool.and_eq_true_iff.mp h
    exact .inr ⟨of_decide_eq_true this.1, of_decide_eq_true this.2⟩
theorem RepL.rep {xs : List V} {ds : List Py} (r : RepL T F xs ds) : ∀ n : Nat, RepL T F (List.replicate n xs).flatten (List.replicate n ds).flatten
  | 0 => .nil
  | n + 1 => by
    rw [List.replicate_succ, List.replicate_succ, List.flatten_cons, List.flatten_cons]
    exact r.append (RepL.rep r n)
theorem k2_mul : R2k T rMulA pyMul := fun F H x y d e Q fh px py q => by
  cases d <;> cases e <;> try exact q.elim
  · rename_i i j
    have q : Give T F H Q (if cMul i j = true then .im (.int (i * j)) else .st) := q
    by_cases h : cMul i j = true
    · rw [if_pos h] at q
      exact .inl ⟨i, j, px.int, py.int, cMul_ok h, q.int⟩
    · rw [if_neg h] at q; exact q.elim
  · rename_i l k
    have q : Give T F H Q (if -(2 ^ 63) ≤ k ∧ k < 2 ^ 63 ∧ l.length * k.toNat ≤ sizeLine then .fr (.lst (List.replicate k.toNat l).flatten) else .st) := q
    by_cases h : -(2 ^ 63) ≤ k ∧ k < 2 ^ 63 ∧ l.length * k.toNat ≤ sizeLine
    · rw [if_pos h] at q
      obtain ⟨p, xs, rfl, hp, rx⟩ := px.lst fh
      exact .inr ⟨p, k, xs, rfl, py.int, hp, h.1, h.2.1, by rw [rx.length]; exact h.2.2, q.lst (rx.rep _)⟩
    · rw [if_neg h] at q; exact q.elim
def cDiv (_ j : Int) : Bool := decide (0 < j) && decide (j < 1073741824)
def pyDiv := pyII cDiv fun i j => .int (i / j)
theorem k2_div : R2k T (rI CDiv fun i j => .int (i / j)) pyDiv := k2_ii (fun i j h => by
  have := Bool.and_eq_true_iff.mp h
  exact ⟨of_decide_eq_true this.1, of_decide_eq_true this.2⟩) fun F i j => .int _
def cMod (_ j : Int) : Bool := decide (0 < j)
def pyMod := pyII cMod fun i j => .int (i % j)
theorem k2_mod : R2k T (rI (fun _ j => 0 < j) fun i j => .int (i % j)) pyMod := k2_ii (fun i j h => of_decide_eq_true h) fun F i j => .int _
def cPow (i j : Int) : Bool := decide (0 ≤ j) && decide (j ≤ 1000000) && decide (i.natAbs < 2 ^ 64)
def pyPow := pyII cPow fun i j => .int (i ^ j.toNat)
theorem k2_pow : R2k T (rI CPow fun i j => .int (i ^ j.toNat)) pyPow := k2_ii (fun i j h => by
  have := Bool.and_eq_true_iff.mp h
  have t := Bool.and_eq_true_iff.mp this.1
  exact ⟨of_decide_eq_true t.1, of_decide_eq_true t.2, of_decide_eq_true this.2⟩) fun F i j => .int _
def pyNeg : Py → OV
  | .int i => .im (.int (-i))
  | _ => .st
theorem k1_neg : R1k T (rU fun i => .int (-i)) pyNeg := fun F H x d Q fh px q => by
  cases d <;> try exact q.elim
  rename_i i
  exact ⟨i, px.int, q.int⟩

/-! ### == != -/
mutual
def Py.toD : Py → PyData
  | .non => .none
  | .bl b => .bool b
  | .int i => .int i
  | .str x => .str x
  | .tup l => .tuple (Py.toDs l)
  | .lst l => .list (Py.toDs l)
  | .scr l => .list (Py.toDs l)
  | .dic _ _ _ => .dict []
  | .dit _ _ _ => .dict []
  | .obj _ _ _ => .dict []
  | .fz d => d.toD
def Py.toDs : List Py → List PyData
  | [] => []
  | d :: ds => d.toD :: Py.toDs ds
end
theorem canLay_dict {kvs : List (PyData × PyData)} : PyData.canLay0 (.dict kvs) = false := by simp [PyData.canLay0]
theorem canLay_tup {ds : List PyData} : PyData.canLay0 (.tuple ds) = PyData.canLayAll0 ds := by simp only [PyData.canLay0]
theorem canLay_lst {ds : List PyData} : PyData.canLay0 (.list ds) = PyData.canLayAll0 ds := by simp only [PyData.canLay0]
theorem canLay_cons {d : PyData} {ds : List PyData} : PyData.canLayAll0 (d :: ds) = (d.canLay0 && PyData.canLayAll0 ds) := by simp only [PyData.canLayAll0]
mutual
theorem Rep.dp : ∀ {v : V} {d : Py}, Rep T F v d → d.toD.canLay0 = true → Dp T.K F v d.toD
  | _, _, .non, _ => by simp only [Py.toD]; exact .non
  | _, _, .bl b, _ => by simp only [Py.toD]; exact .bl b
  | _, _, .int i, _ => by simp only [Py.toD]; exact .int i
  | _, _, .str x, _ => by simp only [Py.toD]; exact .str x
  | _, _, .tup hs r, h => by
    simp only [Py.toD] at h ⊢
    rw [canLay_tup] at h
    exact .tup hs (RepL.dp r h)
  | _, _, .lst hs r, h => by
    simp only [Py.toD] at h ⊢
    rw [canLay_lst] at h
    exact .lst (SqL.of hs) (RepL.dp r h)
  | _, _, .scr hs r, h => by
    simp only [Py.toD] at h ⊢
    rw [canLay_lst] at h
    exact .lst hs (RepL.dp r h)
  | _, _, .dic _ _ _, h => by simp only [Py.toD] at h; rw [canLay_dict] at h; cases h
  | _, _, .dit _ _ _, h => by simp only [Py.toD] at h; rw [canLay_dict] at h; cases h
  | _, _, .obj _ _ _, h => by simp only [Py.toD] at h; rw [canLay_dict] at h; cases h
  | _, _, .fz r, h => by simp only [Py.toD] at h ⊢; exact Rep.dp r h
theorem RepL.dp : ∀ {vs : List V} {ds : List Py}, RepL T F vs ds → PyData.canLayAll0 (Py.toDs ds) = true → DpAll T.K F vs (Py.toDs ds)
  | _, _, .nil, _ => by simp only [Py.toDs]; exact .nil
  | _, _, .cons h r, q => by
    simp only [Py.toDs] at q ⊢
    rw [canLay_cons] at q
    have q := Bool.and_eq_true_iff.mp q
    exact .cons (Rep.dp h q.1) (RepL.dp r q.2)
end
def pyEq (d e : Py) : OV := if (SeqAt.shaped d.toD && SeqAt.shaped e.toD) = true then .im (.bl (PyData.eqv d.toD e.toD)) else .st
def pyNe (d e : Py) : OV := if (SeqAt.shaped d.toD && SeqAt.shaped e.toD) = true then .im (.bl (!PyData.eqv d.toD e.toD)) else .st
theorem k2_eq : R2k T (rEqD T.K) pyEq := fun F H x y d e Q fh px py q => by
  unfold pyEq at q
  by_cases h : (SeqAt.shaped d.toD && SeqAt.shaped e.toD) = true
  · rw [if_pos h] at q
    have h' := Bool.and_eq_true_iff.mp h
    exact ⟨d.toD, e.toD, (px.rep fh).dp (SeqAt.canLay_of_shaped h'.1), (py.rep fh).dp (SeqAt.canLay_of_shaped h'.2), h'.1, h'.2, q.bl⟩
  · rw [if_neg h] at q; exact q.elim
theorem k2_ne : R2k T (rNeD T.K) pyNe := fun F H x y d e Q fh px py q => by
  unfold pyNe at q
  by_cases h : (SeqAt.shaped d.toD && SeqAt.shaped e.toD) = true
  · rw [if_pos h] at q
    have h' := Bool.and_eq_true_iff.mp h
    exact ⟨d.toD, e.toD, (px.rep fh).dp (SeqAt.canLay_of_shaped h'.1), (py.rep fh).dp (SeqAt.canLay_of_shaped h'.2), h'.1, h'.2, q.bl⟩
  · rw [if_neg h] at q; exact q.elim

/-! ### < <= > >= of ints and of texts -/
def pyLt : Py → Py → OV
  | .int i, .int j => .im (.bl (decide (i < j)))
  | .str a, .str b => .im (.bl (decide (a.cps.toList < b.cps.toList)))
  | _, _ => .st
def pyLe : Py → Py → OV
  | .int i, .int j => .im (.bl (decide (i ≤ j)))
  | .str a, .str b => .im (.bl (!decide (b.cps.toList < a.cps.toList)))
  | _, _ => .st
def pyGt : Py → Py → OV
  | .int i, .int j => .im (.bl (decide (j < i)))
  | .str a, .str b => .im (.bl (decide (b.cps.toList < a.cps.toList)))
  | _, _ => .st
def pyGe : Py → Py → OV
  | .int i, .int j => .im (.bl (decide (j ≤ i)))
  | .str a, .str b => .im (.bl (!decide (a.cps.toList < b.cps.toList)))
  | _, _ => .st
def rStr (g : Str → Str → Bool) : R2 := fun x y H Q => ∃ i j, x = .str i ∧ y = .str j ∧ Q (.bl (g i j)) H
def rOrd (p : Int → Int → Bool) (g : Str → Str → Bool) : R2 := fun x y H Q => rI0 (fun i j => .bl (p i j)) x y H Q ∨ rStr g x y H Q
abbrev rLtA : R2 := rOrd (fun i j => decide (i < j)) fun a b => decide (a.cps.toList < b.cps.toList)
abbrev rLeA : R2 := rOrd (fun i j => decide (i ≤ j)) fun a b => !decide (b.cps.toList < a.cps.toList)
abbrev rGtA : R2 := rOrd (fun i j => decide (j < i)) fun a b => decide (b.cps.toList < a.cps.toList)
abbrev rGeA : R2 := rOrd (fun i j => decide (j ≤ i)) fun a b => !decide (a.cps.toList < b.cps.toList)
theorem op_ltA {X : Cx} : OpR X (compareOp .Lt) rLtA := OpR.or op_lt op_lt_str
theorem op_leA {X : Cx} : OpR X (compareOp .LtE) rLeA := OpR.or op_le op_le_str
theorem op_gtA {X : Cx} : OpR X (compareOp .Gt) rGtA := OpR.or op_gt op_gt_str
theorem op_geA {X : Cx} : OpR X (compareOp .GtE) rGeA := OpR.or op_ge op_ge_str
theorem k2_ord {p : Int → Int → Bool} {g : Str → Str → Bool} {f : Py → Py → OV} (h1 : ∀ i j, f (.int i) (.int j) = .im (.bl (p i j))) (h2 : ∀ a b, f (.str a) (.str b) = .im (.bl (g a b)))
    (h3 : ∀ d e, (∀ i j, ¬ (d = .int i ∧ e = .int j)) → (∀ i j, ¬ (d = .str i ∧ e = .str j)) → f d e = .st) : R2k T (rOrd p g) f := fun F H x y d e Q fh px py q => by
  by_cases hi : ∃ i j, d = .int i ∧ e = .int j
  · obtain ⟨i, j, rfl, rfl⟩ := hi
    rw [h1] at q
    exact .inl ⟨i, j, px.int, py.int, q.bl⟩
  · by_cases hs : ∃ i j, d = .str i ∧ e = .str j
    · obtain ⟨i, j, rfl, rfl⟩ := hs
      rw [h2] at q
      exact .inr ⟨i, j, px.str, py.str, q.bl⟩
    · rw [h3 d e (fun i j z => hi ⟨i, j, z⟩) fun i j z => hs ⟨i, j, z⟩] at q
      exact q.elim
theorem k2_lt : R2k T rLtA pyLt := k2_ord (fun _ _ => rfl) (fun _ _ => rfl) fun d e h1 h2 => by
  cases d <;> cases e <;> first | rfl | exact absurd ⟨rfl, rfl⟩ (h1 _ _) | exact absurd ⟨rfl, rfl⟩ (h2 _ _)
theorem k2_le : R2k T rLeA pyLe := k2_ord (fun _ _ => rfl) (fun _ _ => rfl) fun d e h1 h2 => by
  cases d <;> cases e <;> first | rfl | exact absurd ⟨rfl, rfl⟩ (h1 _ _) | exact absurd ⟨rfl, rfl⟩ (h2 _ _)
theorem k2_gt : R2k T rGtA pyGt := k2_ord (fun _ _ => rfl) (fun _ _ => rfl) fun d e h1 h2 => by
  cases d <;> cases e <;> first | rfl | exact absurd ⟨rfl, rfl⟩ (h1 _ _) | exact absurd ⟨rfl, rfl⟩ (h2 _ _)
theorem k2_ge : R2k T rGeA pyGe := k2_ord (fun _ _ => rfl) (fun _ _ => rfl) fun d e h1 h2 => by
  cases d <;> cases e <;> first | rfl | exact absurd ⟨rfl, rfl⟩ (h1 _ _) | exact absurd ⟨rfl, rfl⟩ (h2 _ _)

/-! ### is, is not -/
def Py.isNon : Py → Bool
  | .non => true
  | .fz d => d.isNon
  | _ => false
theorem Rep.isNon {F : Hp} : ∀ {d : Py} {v : V}, Rep T F v d → decide (v = .non) = d.isNon
  | .fz d, v, .fz h => Rep.isNon (d := d) h
  | .non, _, .non => rfl
  | .bl _, _, .bl _ => rfl
  | .int _, _, .int _ => rfl
  | .str _, _, .str _ => rfl
  | .tup _, _, .tup _ _ => rfl
  | .lst _, _, .lst _ _ => rfl
  | .scr _, _, .scr _ _ => rfl
  | .dic _ _ _, _, .dic _ _ _ => rfl
  | .dit _ _ _, _, .dit _ _ _ => rfl
  | .obj _ _ _, _, .obj _ _ _ => rfl
theorem Pk.isNon {d : Py} (h : Pk T F H v d) : decide (v = .non) = d.isNon := by
  rcases h with h | ⟨p, rfl, h⟩
  · exact h.isNon
  · cases d <;> first | rfl | exact h.elim
def pyIs : Py → Py → OV
  | d, .non => .im (.bl d.isNon)
  | .bl a, .bl b => .im (.bl (decide (a = b)))
  | _, _ => .st
def pyIsNot : Py → Py → OV
  | d, .non => .im (.bl (!d.isNon))
  | .bl a, .bl b => .im (.bl (!decide (a = b)))
  | _, _ => .st
def rIsA : R2 := fun x y H Q => (y = .non ∧ Q (.bl (decide (x = .non))) H) ∨ rIsB x y H Q
def rIsNotA : R2 := fun x y H Q => (y = .non ∧ Q (.bl (!decide (x = .non))) H) ∨ rNotB x y H Q
theorem op_isA {X : Cx} : OpR X (compareOp .Is) rIsA := OpR.or op_isN op_isBl
theorem op_isNotA {X : Cx} : OpR X (compareOp .IsNot) rIsNotA := OpR.or op_notN op_notBl
theorem k2_is : R2k T rIsA pyIs := fun F H x y d e Q fh px py q => by
  cases e with
  | non =>
    have q : Give T F H Q (.im (.bl d.isNon)) := by cases d <;> exact q
    exact .inl ⟨py.non, by rw [px.isNon]; exact q.bl⟩
  | bl b =>
    cases d <;> try exact q.elim
    rename_i a
    exact .inr ⟨a, b, px.bl, py.bl, q.bl⟩
  | _ => cases d <;> exact q.elim
theorem k2_isNot : R2k T rIsNotA pyIsNot := fun F H x y d e Q fh px py q => by
  cases e with
  | non =>
    have q : Give T F H Q (.im (.bl (!d.isNon))) := by cases d <;> exact q
    exact .inl ⟨py.non, by rw [px.isNon]; exact q.bl⟩
  | bl b =>
    cases d <;> try exact q.elim
    rename_i a
    exact .inr ⟨a, b, px.bl, py.bl, q.bl⟩
  | _ => cases d <;> exact q.elim

def cutA {α : Type} (xs : List α) (lo hi : Option Int) : List α := (xs.drop (HT.sIx xs.length 0 lo)).take (HT.sIx xs.length xs.length hi - HT.sIx xs.length 0 lo)
theorem RepL.cut {xs : List V} {l : List Py} (r : RepL T F xs l) (lo hi : Option Int) : RepL T F (cutV xs lo hi) (cutA l lo hi) := by
  unfold cutV cutA
  rw [r.length]
  exact (r.drop _).take _
def pySl : Py → Option Int → Option Int → OV
  | .lst l, lo, hi => .fr (.lst (cutA l lo hi))
  | .scr l, lo, hi => .fr (.lst (cutA l lo hi))
  | .tup l, lo, hi => .im (.tup (cutA l lo hi))
  | .str z, lo, hi => if z.length ≤ sizeLine then .im (.str (cutS z lo hi)) else .st
  | _, _, _ => .st
def rSlAll (K : PySem.W.Frag) : V → Option Int → Option Int → Hp → VK → Prop := fun x lo hi H Q => rSlL K x lo hi H Q ∨ rSlA K x lo hi H Q ∨ rSlS x lo hi H Q
theorem sl_all {X : Cx} : SlR X (rSlAll X.K) := SlR.or sl_list (SlR.or sl_tupA sl_str)
theorem cut_whole {l : List Py} {lo hi : Option Int} (h : HT.sIx l.length 0 lo = 0 ∧ HT.sIx l.length l.length hi = l.length) : cutA l lo hi = l := by
  unfold cutA
  rw [h.1, h.2]
  show (l.drop 0).take (l.length - 0) = l
  rw [List.drop_zero, Nat.sub_zero, List.take_length]
theorem k3_sl {x : V} {d : Py} {lo hi : Option Int} {Q : VK} (fh : Sm F H) (px : Pk T F H x d) (q : Give T F H Q (pySl d lo hi)) : rSlAll T.K x lo hi H Q := by
  cases d <;> try exact q.elim
  · rename_i z
    have q : Give T F H Q (if z.length ≤ sizeLine then .im (.str (cutS z lo hi)) else .st) := q
    by_cases h : z.length ≤ sizeLine
    · rw [if_pos h] at q
      exact .inr (.inr ⟨z, px.str, h, q.str⟩)
    · rw [if_neg h] at q; exact q.elim
  · rename_i l
    obtain ⟨p, xs, rfl, hp, r, r0⟩ := px.tup fh
    refine .inr (.inl ⟨p, xs, rfl, hp, fun hw => ?_, fun _ => ?_⟩)
    · rw [r.length] at hw
      exact Give.same (d := .tup (cutA l lo hi)) (by rw [cut_whole hw]; exact r0) q
    · exact Give.tup (r.cut lo hi) q
  · rename_i l
    obtain ⟨p, xs, rfl, hp, r⟩ := px.lst fh
    exact .inl ⟨p, xs, rfl, SqL.of hp, Give.lst (r.cut lo hi) q⟩
  · rename_i l
    obtain ⟨p, xs, rfl, hp, r⟩ := px.scr fh
    exact .inl ⟨p, xs, rfl, hp, Give.lst (r.cut lo hi) q⟩
/-- xs[::-1] of a list -/
def pyRev : Py → OV
  | .lst l => .fr (.lst l.reverse)
  | .scr l => .fr (.lst l.reverse)
  | _ => .st
theorem RepL.reverse {F : Hp} : ∀ {xs : List V} {ds : List Py}, RepL T F xs ds → RepL T F xs.reverse ds.reverse
  | _, _, .nil => .nil
  | _, _, .cons h r => by rw [List.reverse_cons, List.reverse_cons]; exact (RepL.reverse r).append (.cons h .nil)
theorem k_rev : R1k T (fun x H Q => ∃ a xs, x = .ref a ∧ SqL T.K H a xs ∧ ∀ p, H p = none → Q (.ref p) (upd H p (.lst xs.reverse))) pyRev := fun F H x d Q fh px q => by
  cases d <;> try exact q.elim
  · obtain ⟨p, xs, rfl, hp, r⟩ := px.lst fh
    exact ⟨p, xs, rfl, SqL.of hp, Give.lst r.reverse q⟩
  · obtain ⟨p, xs, rfl, hp, r⟩ := px.scr fh
    exact ⟨p, xs, rfl, hp, Give.lst r.reverse q⟩
/-! ### built-ins -/
theorem PkL.one {F H : Hp} {xs : List V} {d : Py} (h : PkL T F H xs [d]) : ∃ x, xs = [x] ∧ Pk T F H x d := by
  cases h with
  | cons h t => cases t; exact ⟨_, rfl, h⟩
theorem PkL.two {F H : Hp} {xs : List V} {d e : Py} (h : PkL T F H xs [d, e]) : ∃ x y, xs = [x, y] ∧ Pk T F H x d ∧ Pk T F H y e := by
  cases h with
  | cons h t =>
    obtain ⟨y, rfl, k⟩ := t.one
    exact ⟨_, y, rfl, h, k⟩
def one (f : Py → OV) : List Py → OV
  | [d] => f d
  | _ => .st
def two (f : Py → Py → OV) : List Py → OV
  | [d, e] => f d e
  | _ => .st
theorem kc_one {r : List V → Hp → VK → Prop} {f : Py → OV} (h : R1k T (fun x H Q => r [x] H Q) f) : RCk T r (one f) := fun F H xs ds Q fh px q => by
  match ds, px, q with
  | [], _, q => exact q.elim
  | [d], px, q =>
    obtain ⟨x, rfl, p1⟩ := px.one
    exact h F H x d Q fh p1 q
  | _ :: _ :: _, _, q => exact q.elim
theorem kc_two {r : List V → Hp → VK → Prop} {f : Py → Py → OV} (h : R2k T (fun x y H Q => r [x, y] H Q) f) : RCk T r (two f) := fun F H xs ds Q fh px q => by
  match ds, px, q with
  | [], _, q => exact q.elim
  | [d], _, q => exact q.elim
  | [d, e], px, q =>
    obtain ⟨x, y, rfl, p1, p2⟩ := px.two
    exact h F H x y d e Q fh p1 p2 q
  | _ :: _ :: _ :: _, _, q => exact q.elim
def pyLen : Py → OV
  | .lst l => .im (.int l.length)
  | .scr l => .im (.int l.length)
  | .tup l => .im (.int l.length)
  | .str z => if z.length ≤ sizeLine then .im (.int z.length) else .st
  | _ => .st
theorem kc_len : RCk T (fun xs H Q => ∃ x n, xs = [x] ∧ LenV T.K x H n ∧ Q (.int n) H) (one pyLen) := kc_one fun F H x d Q fh px q => by
  cases d <;> try exact q.elim
  · rename_i z
    have e := px.str
    subst e
    have q : Give T F H Q (if z.length ≤ sizeLine then .im (.int z.length) else .st) := q
    by_cases h : z.length ≤ sizeLine
    · rw [if_pos h] at q
      exact ⟨_, z.length, rfl, ⟨h, rfl⟩, Give.int q⟩
    · rw [if_neg h] at q; exact q.elim
  · obtain ⟨p, xs, rfl, hp, r, _⟩ := px.tup fh
    exact ⟨_, _, rfl, .inr ⟨xs, hp, r.length.symm⟩, Give.int q⟩
  · obtain ⟨p, xs, rfl, hp, r⟩ := px.lst fh
    exact ⟨_, _, rfl, .inl ⟨xs, SqL.of hp, r.length.symm⟩, Give.int q⟩
  · obtain ⟨p, xs, rfl, hp, r⟩ := px.scr fh
    exact ⟨_, _, rfl, .inl ⟨xs, hp, r.length.symm⟩, Give.int q⟩
def pyTuple : Py → OV
  | .lst l => .im (.tup l)
  | .scr l => .im (.tup l)
  | .tup l => .im (.tup l)
  | _ => .st
theorem kc_tuple : RCk T (fun xs H Q => ∃ p ys, xs = [.ref p] ∧ ((SqL T.K H p ys ∧ ∀ l, H l = none → Q (.ref l) (upd H l (.tup ys))) ∨ (SqT T.K H p ys ∧ Q (.ref p) H))) (one pyTuple) := kc_one fun F H x d Q fh px q => by
  cases d <;> try exact q.elim
  · obtain ⟨p, xs, rfl, hp, _, r⟩ := px.tup fh
    exact ⟨p, xs, rfl, .inr ⟨hp, q.same r⟩⟩
  · obtain ⟨p, xs, rfl, hp, r⟩ := px.lst fh
    exact ⟨p, xs, rfl, .inl ⟨SqL.of hp, Give.tup r q⟩⟩
  · obtain ⟨p, xs, rfl, hp, r⟩ := px.scr fh
    exact ⟨p, xs, rfl, .inl ⟨hp, Give.tup r q⟩⟩
def pyList : Py → OV
  | .lst l => .fr (.lst l)
  | .scr l => .fr (.lst l)
  | .tup l => .fr (.lst l)
  | _ => .st
theorem kc_list : RCk T (fun xs H Q => ∃ p ys, xs = [.ref p] ∧ (SqL T.K H p ys ∨ SqT T.K H p ys) ∧ ∀ l, H l = none → Q (.ref l) (upd H l (.lst ys))) (one pyList) := kc_one fun F H x d Q fh px q => by
  cases d <;> try exact q.elim
  · obtain ⟨p, xs, rfl, hp, r, _⟩ := px.tup fh
    exact ⟨p, xs, rfl, .inr hp, Give.lst r q⟩
  · obtain ⟨p, xs, rfl, hp, r⟩ := px.lst fh
    exact ⟨p, xs, rfl, .inl (SqL.of hp), Give.lst r q⟩
  · obtain ⟨p, xs, rfl, hp, r⟩ := px.scr fh
    exact ⟨p, xs, rfl, .inl hp, Give.lst r q⟩
def pyToInt : Py → OV
  | .int i => .im (.int i)
  | .bl b => .im (.int (if b then 1 else 0))
  | _ => .st
theorem kc_int : RCk T (fun xs H Q => (∃ i, xs = [.int i] ∧ Q (.int i) H) ∨ ∃ k, xs = [.bl k] ∧ Q (.int (if k then 1 else 0)) H) (one pyToInt) := kc_one fun F H x d Q fh px q => by
  cases d <;> try exact q.elim
  · rename_i b
    have e := px.bl
    subst e
    exact .inr ⟨b, rfl, Give.int q⟩
  · rename_i i
    have e := px.int
    subst e
    exact .inl ⟨i, rfl, Give.int q⟩
/-- max, min of two ints -/
def pyI2 (g : Int → Int → Int) : Py → Py → OV
  | .int i, .int j => .im (.int (g i j))
  | _, _ => .st
theorem kc_i2 {g : Int → Int → Int} : RCk T (fun xs H Q => ∃ i j, xs = [.int i, .int j] ∧ Q (.int (g i j)) H) (two (pyI2 g)) := kc_two fun F H x y d e Q fh p1 p2 q => by
  cases d <;> cases e <;> try exact q.elim
  rename_i i j
  have e1 := p1.int
  have e2 := p2.int
  subst e1 e2
  exact ⟨i, j, rfl, Give.int q⟩
abbrev max2 (i j : Int) : Int := if j > i then j else i
abbrev min2 (i j : Int) : Int := if j < i then j else i
theorem kc_max : RCk T (fun xs H Q => ∃ i j, xs = [.int i, .int j] ∧ Q (.int (if j > i then j else i)) H) (two (pyI2 max2)) := kc_i2
theorem kc_min : RCk T (fun xs H Q => ∃ i j, xs = [.int i, .int j] ∧ Q (.int (if j < i then j else i)) H) (two (pyI2 min2)) := kc_i2
/-! ### in place -/
def pyAddI : Py → Py → OV
  | .int i, .int j => .im (.int (i + j))
  | .str a, .str b => if a.length + b.length ≤ sizeLine then .im (.str (a ++ b)) else .st
  | _, _ => .st
def rAddI : R2 := fun x y H Q => rI0 (fun i j => .int (i + j)) x y H Q ∨ (∃ i j, x = .str i ∧ y = .str j ∧ i.length + j.length ≤ sizeLine ∧ Q (.str (i ++ j)) H)
theorem ip_addA {X : Cx} : PIp X .Add rAddI := OpR.or (f := inplaceOp .Add) iop_add iop_add_str
theorem k2_addI : R2k T rAddI pyAddI := fun F H x y d e Q fh px py q => by
  cases d <;> cases e <;> try exact q.elim
  · rename_i i j
    exact .inl ⟨i, j, px.int, py.int, q.int⟩
  · rename_i a b
    have q : Give T F H Q (if a.length + b.length ≤ sizeLine then .im (.str (a ++ b)) else .st) := q
    by_cases h : a.length + b.length ≤ sizeLine
    · rw [if_pos h] at q
      exact .inr ⟨a, b, px.str, py.str, h, q.str⟩
    · rw [if_neg h] at q; exact q.elim
theorem ip_subA {X : Cx} : PIp X .Sub (rI0 fun i j => .int (i - j)) := iop_sub
theorem ip_divA {X : Cx} : PIp X .FloorDiv (rI CDiv fun i j => .int (i / j)) := iop_fdiv
theorem ip_modA {X : Cx} : PIp X .Mod (rI (fun _ j => 0 < j) fun i j => .int (i % j)) := iop_mod
theorem ip_mulA {X : Cx} : PIp X .Mult (rI CMul fun i j => .int (i * j)) := iop_mul
def pyMulI := pyII cMul fun i j => .int (i * j)
theorem k2_mulI : R2k T (rI CMul fun i j => .int (i * j)) pyMulI := k2_ii (fun i j h => cMul_ok h) fun F i j => .int _
/-! ### c in z, c one sign -/
def signIn (a z : Str) : Option Bool := match a.cps.toList with
  | [c] => some (decide (c ∈ z.cps.toList))
  | _ => none
theorem sign_is {a z : Str} {b : Bool} (h : signIn a z = some b) : ∃ c, a = ⟨#[c]⟩ ∧ b = decide (c ∈ z.cps.toList) := by
  unfold signIn at h
  obtain ⟨⟨l⟩⟩ := a
  match l, h with
  | [c], h => exact ⟨c, rfl, (Option.some.inj h).symm⟩
  | [], h => cases h
  | _ :: _ :: _, h => cases h
def blO (o : Option Bool) : OV := match o with
  | some b => .im (.bl b)
  | none => .st
def pyInS : Py → Py → OV
  | .str a, .str z => blO (signIn a z)
  | _, _ => .st
def pyNotInS : Py → Py → OV
  | .str a, .str z => blO ((signIn a z).map not)
  | _, _ => .st
abbrev rSignIn : R2 := fun x y H Q => ∃ (c : Nat) (z : Str), x = .str ⟨#[c]⟩ ∧ y = .str z ∧ Q (.bl (decide (c ∈ z.cps.toList))) H
abbrev rSignNot : R2 := fun x y H Q => ∃ (c : Nat) (z : Str), x = .str ⟨#[c]⟩ ∧ y = .str z ∧ Q (.bl (!decide (c ∈ z.cps.toList))) H
theorem k2_inS : R2k T rSignIn pyInS := fun F H x y d e Q fh px py q => by
  cases d <;> cases e <;> try exact q.elim
  rename_i a z
  have q : Give T F H Q (blO (signIn a z)) := q
  cases h : signIn a z with
  | none => rw [h] at q; exact q.elim
  | some b =>
    rw [h] at q
    obtain ⟨c, rfl, rfl⟩ := sign_is h
    exact ⟨c, z, px.str, py.str, Give.bl q⟩
theorem k2_notInS : R2k T rSignNot pyNotInS := fun F H x y d e Q fh px py q => by
  cases d <;> cases e <;> try exact q.elim
  rename_i a z
  have q : Give T F H Q (blO ((signIn a z).map not)) := q
  cases h : signIn a z with
  | none => rw [h] at q; exact q.elim
  | some b =>
    rw [h] at q
    obtain ⟨c, rfl, rfl⟩ := sign_is h
    exact ⟨c, z, px.str, py.str, Give.bl q⟩
/-! ### a method of a text with one argument -/
def M1k (T : Tb) (r : V → List V → Hp → VK → Prop) (f : Str → Py → OV) : Prop := ∀ (F H : Hp) (a : Str) (y : V) (e : Py) (Q : VK), Sm F H → Pk T F H y e → Give T F H Q (f a e) → r (.str a) [y] H Q
/-- texts of a list -/
def strsOf : List Py → Option (List Str)
  | [] => some []
  | .str x :: l => (strsOf l).map (x :: ·)
  | _ => none
theorem strs_rep : ∀ {xs : List V} {l : List Py} {ys : List Str}, RepL T F xs l → strsOf l = some ys → xs = ys.map V.str
  | _, _, _, .nil, h => by cases h; rfl
  | _, _, ys, .cons (d := d) (ds := ds) r rr, h => by
    cases d <;> try (cases h; done)
    rename_i x
    have h : (strsOf ds).map (x :: ·) = some ys := h
    cases e : strsOf ds with
    | none => rw [e] at h; cases h
    | some zs =>
      rw [e] at h
      cases h
      cases r
      rw [strs_rep rr e]
      rfl
theorem rep_strs (F : Hp) : ∀ ys : List Str, RepL T F (ys.map V.str) (ys.map Py.str)
  | [] => .nil
  | y :: ys => .cons (.str y) (rep_strs F ys)
def fSplit (a : Str) : Py → OV
  | .str b => if (b.length == 0) = false ∧ a.length + 2 ≤ sizeLine then .fr (.lst ((Txt.split a b).map Py.str)) else .st
  | _ => .st
abbrev rSplit : V → List V → Hp → VK → Prop := fun x xs H Q => ∃ a b, x = .str a ∧ xs = [.str b] ∧ (b.length == 0) = false ∧ a.length + 2 ≤ sizeLine ∧ rNewStrs (Txt.split a b) H Q
theorem km_split : M1k T rSplit fSplit := fun F H a y e Q fh py q => by
  cases e <;> try exact q.elim
  rename_i b
  have q : Give T F H Q (if (b.length == 0) = false ∧ a.length + 2 ≤ sizeLine then .fr (.lst ((Txt.split a b).map Py.str)) else .st) := q
  by_cases h : (b.length == 0) = false ∧ a.length + 2 ≤ sizeLine
  · rw [if_pos h] at q
    exact ⟨a, b, rfl, by rw [py.str], h.1, h.2, Give.lst (rep_strs F _) q⟩
  · rw [if_neg h] at q; exact q.elim
def joinO (a : Str) : Option (List Str) → OV
  | some ys => if (ys.map (·.length)).sum + ys.length * a.length ≤ 16777216 then .im (.str (Txt.join a ys)) else .st
  | none => .st
def fJoin (a : Str) : Py → OV
  | .lst l => joinO a (strsOf l)
  | .tup l => joinO a (strsOf l)
  | _ => .st
abbrev rJoin (K : PySem.W.Frag) : V → List V → Hp → VK → Prop := fun x xs H Q => ∃ a p, ∃ ys : List Str, x = .str a ∧ xs = [.ref p] ∧ (SqL K H p (ys.map V.str) ∨ SqT K H p (ys.map V.str)) ∧
  (ys.map (·.length)).sum + ys.length * a.length ≤ 16777216 ∧ Q (.str (Txt.join a ys)) H
theorem km_join : M1k T (rJoin T.K) fJoin := fun F H a y e Q fh py q => by
  have fin : ∀ l, Give T F H Q (joinO a (strsOf l)) → ∃ ys, strsOf l = some ys ∧ (ys.map (·.length)).sum + ys.length * a.length ≤ 16777216 ∧ Q (.str (Txt.join a ys)) H := fun l q => by
    cases e : strsOf l with
    | none => rw [e] at q; exact q.elim
    | some ys =>
      rw [e] at q
      have q : Give T F H Q (if (ys.map (·.length)).sum + ys.length * a.length ≤ 16777216 then .im (.str (Txt.join a ys)) else .st) := q
      by_cases h : (ys.map (·.length)).sum + ys.length * a.length ≤ 16777216
      · rw [if_pos h] at q
        exact ⟨ys, rfl, h, Give.str q⟩
      · rw [if_neg h] at q; exact q.elim
  cases e <;> try exact q.elim
  · rename_i l
    obtain ⟨ys, hy, hz, q⟩ := fin l q
    obtain ⟨p, xs, rfl, hp, r, _⟩ := py.tup fh
    have e := strs_rep r hy
    subst e
    exact ⟨a, p, ys, rfl, rfl, .inr hp, hz, q⟩
  · rename_i l
    obtain ⟨ys, hy, hz, q⟩ := fin l q
    obtain ⟨p, xs, rfl, hp, r⟩ := py.lst fh
    have e := strs_rep r hy
    subst e
    exact ⟨a, p, ys, rfl, rfl, .inl (SqL.of hp), hz, q⟩
/-! ### all(xs), bools alone -/
def blsOf : List Py → Option (List Bool)
  | [] => some []
  | .bl x :: l => (blsOf l).map (x :: ·)
  | _ => none
theorem bls_rep : ∀ {xs : List V} {l : List Py} {ys : List Bool}, RepL T F xs l → blsOf l = some ys → xs = ys.map V.bl
  | _, _, _, .nil, h => by cases h; rfl
  | _, _, ys, .cons (d := d) (ds := ds) r rr, h => by
    cases d <;> try (cases h; done)
    rename_i x
    have h : (blsOf ds).map (x :: ·) = some ys := h
    cases e : blsOf ds with
    | none => rw [e] at h; cases h
    | some zs =>
      rw [e] at h
      cases h
      cases r
      rw [bls_rep rr e]
      rfl
def pyAll : Py → OV
  | .lst l => blO ((blsOf l).map fun bs => bs.all id)
  | _ => .st
theorem kc_all : RCk T (rAll T.K) (one pyAll) := kc_one fun F H x d Q fh px q => by
  cases d <;> try exact q.elim
  rename_i l
  have q : Give T F H Q (blO ((blsOf l).map fun bs => bs.all id)) := q
  cases e : blsOf l with
  | none => rw [e] at q; exact q.elim
  | some bs =>
    rw [e] at q
    obtain ⟨p, xs, rfl, hp, r⟩ := px.lst fh
    have z := bls_rep r e
    subst z
    exact ⟨p, bs, rfl, SqL.of hp, Give.bl q⟩
end
end Mr
/-! Dp: operations as the printed texts name them -/
namespace Mr
open PySem PySem.Spec PyProof.Rows L2
section
variable {T : Tb} {W : Wx} {n : Nat} {F F1 F2 F' H H1 H2 H' : Hp} {Φ : Frm} {σ τ : List (Option V)} {ρ ρ1 ρ2 : Rho} {Q : VK} {X Y : Rts} {v : V} {d : Py}
theorem at_ii {C : Int → Int → Bool} {g : Int → Int → Int} (d e : Py) : (pyII C (fun i j => .int (g i j)) d e).atom = true := by
  cases d <;> cases e <;> first | rfl | (show (OV.atom (if _ then _ else _)) = true; split <;> rfl)
theorem r2_sub : R2rd T (rI0 fun i j => .int (i - j)) pySub := rd2 k2_sub fun d e => by cases d <;> cases e <;> rfl
theorem r2_div : R2rd T (rI CDiv fun i j => .int (i / j)) pyDiv := rd2 k2_div at_ii
theorem r2_mod : R2rd T (rI (fun _ j => 0 < j) fun i j => .int (i % j)) pyMod := rd2 k2_mod at_ii
theorem r2_pow : R2rd T (rI CPow fun i j => .int (i ^ j.toNat)) pyPow := rd2 k2_pow at_ii
theorem r2_mulI : R2rd T (rI CMul fun i j => .int (i * j)) pyMulI := rd2 k2_mulI at_ii
theorem r2_addI : R2rd T rAddI pyAddI := rd2 k2_addI fun d e => by
  cases d <;> cases e <;> first | rfl | (show (OV.atom (if _ then _ else _)) = true; split <;> rfl)
theorem r2_eq : R2rd T (rEqD T.K) pyEq := rd2 k2_eq fun d e => by unfold pyEq; split <;> rfl
theorem r2_ne : R2rd T (rNeD T.K) pyNe := rd2 k2_ne fun d e => by unfold pyNe; split <;> rfl
theorem r2_lt : R2rd T rLtA pyLt := rd2 k2_lt fun d e => by cases d <;> cases e <;> rfl
theorem r2_le : R2rd T rLeA pyLe := rd2 k2_le fun d e => by cases d <;> cases e <;> rfl
theorem r2_gt : R2rd T rGtA pyGt := rd2 k2_gt fun d e => by cases d <;> cases e <;> rfl
theorem r2_ge : R2rd T rGeA pyGe := rd2 k2_ge fun d e => by cases d <;> cases e <;> rfl
theorem r2_is : R2rd T rIsA pyIs := rd2 k2_is fun d e => by cases d <;> cases e <;> rfl
theorem r2_isNot : R2rd T rIsNotA pyIsNot := rd2 k2_isNot fun d e => by cases d <;> cases e <;> rfl
theorem blO_at (o : Option Bool) : (blO o).atom = true := by cases o <;> rfl
theorem r2_inS : R2rd T rSignIn pyInS := rd2 k2_inS fun d e => by cases d <;> cases e <;> first | rfl | exact blO_at _
theorem r2_notInS : R2rd T rSignNot pyNotInS := rd2 k2_notInS fun d e => by cases d <;> cases e <;> first | rfl | exact blO_at _
theorem r1_neg : R1rd T (rU fun i => .int (-i)) pyNeg := rd1 k1_neg fun d => by cases d <;> rfl
theorem r2_add : R2ok T (rAddA T.K) pyAdd := sh2 k2_add fun d e => by
  cases d <;> cases e <;> first | trivial | (show OV.noTup (if _ then _ else _); split <;> trivial)
theorem r2_mul : R2ok T rMulA pyMul := sh2 k2_mul fun d e => by
  cases d <;> cases e <;> first | trivial | (show OV.noTup (if _ then _ else _); split <;> trivial)
theorem se_rev {te : TE} {me : ME} (he : SE T W n te me) : SE T W n (tRevL T.K te) (mUnS pyRev me) := se_unS (r := fun x H Q => ∃ a xs, x = .ref a ∧ SqL T.K H a xs ∧ ∀ p, H p = none → Q (.ref p) (upd H p (.lst xs.reverse))) (sh1 k_rev fun d => by cases d <;> trivial) he
theorem one_at {f : Py → OV} (h : ∀ d, (f d).atom = true) (ds : List Py) : (one f ds).atom = true := by
  match ds with
  | [] => rfl
  | [d] => exact h d
  | _ :: _ :: _ => rfl
theorem two_at {f : Py → Py → OV} (h : ∀ d e, (f d e).atom = true) (ds : List Py) : (two f ds).atom = true := by
  match ds with
  | [] => rfl
  | [d] => rfl
  | [d, e] => exact h d e
  | _ :: _ :: _ :: _ => rfl
theorem one_nt {f : Py → OV} (h : ∀ d, (f d).noTup) (ds : List Py) : (one f ds).noTup := by
  match ds with
  | [] => trivial
  | [d] => exact h d
  | _ :: _ :: _ => trivial
theorem rc_len : RCrd T (fun xs H Q => ∃ x n, xs = [x] ∧ LenV T.K x H n ∧ Q (.int n) H) (one pyLen) := rdC kc_len (one_at fun d => by
  cases d <;> first | rfl | (show (OV.atom (if _ then _ else _)) = true; split <;> rfl))
theorem rc_int : RCrd T (fun xs H Q => (∃ i, xs = [.int i] ∧ Q (.int i) H) ∨ ∃ k, xs = [.bl k] ∧ Q (.int (if k then 1 else 0)) H) (one pyToInt) := rdC kc_int (one_at fun d => by cases d <;> rfl)
theorem at_i2 {g : Int → Int → Int} (d e : Py) : (pyI2 g d e).atom = true := by cases d <;> cases e <;> rfl
theorem rc_max : RCrd T (fun xs H Q => ∃ i j, xs = [.int i, .int j] ∧ Q (.int (if j > i then j else i)) H) (two (pyI2 max2)) := rdC kc_max (two_at at_i2)
theorem rc_min : RCrd T (fun xs H Q => ∃ i j, xs = [.int i, .int j] ∧ Q (.int (if j < i then j else i)) H) (two (pyI2 min2)) := rdC kc_min (two_at at_i2)
theorem rc_all : RCrd T (rAll T.K) (one pyAll) := rdC kc_all (one_at fun d => by cases d <;> first | rfl | exact blO_at _)
theorem rc_tuple : RCok T (fun xs H Q => ∃ p ys, xs = [.ref p] ∧ ((SqL T.K H p ys ∧ ∀ l, H l = none → Q (.ref l) (upd H l (.tup ys))) ∨ (SqT T.K H p ys ∧ Q (.ref p) H))) (one pyTuple) := shC kc_tuple (one_nt fun d => by cases d <;> trivial)
theorem rc_list : RCok T (fun xs H Q => ∃ p ys, xs = [.ref p] ∧ (SqL T.K H p ys ∨ SqT T.K H p ys) ∧ ∀ l, H l = none → Q (.ref l) (upd H l (.lst ys))) (one pyList) := shC kc_list (one_nt fun d => by cases d <;> trivial)

/-! ### a chain of two comparisons -/
def OV.bool : OV → Option Bool
  | .im (.bl b) => some b
  | _ => none
def ch3 (mc : ME) (g : Py → Py → OV) (y : Rv) (ρ : Rho) : Option Bool → ER
  | some true => pend y mc ρ fun y z ρ3 => op2 g ρ3 (datR ρ3 y) (datR ρ3 z)
  | some false => .ok (.im (.bl false)) ρ
  | none => .st
def ch2 (f g : Py → Py → OV) (mc : ME) (y : Rv) (ρ : Rho) : Option Py → Option Py → ER
  | some d, some e => ch3 mc g y ρ (f d e).bool
  | _, _ => .st
def mChain (f g : Py → Py → OV) (ma mb mc : ME) : ME := fun ρ => (ma ρ).bind fun x ρ1 => pend x mb ρ1 fun x y ρ2 => ch2 f g mc y ρ2 (datR ρ2 x) (datR ρ2 y)
theorem se_chain {r r' : R2} {f g : Py → Py → OV} {ta tb tc : TE} {ma mb mc : ME} (hr : R2rd T r f) (hr' : R2rd T r' g) (ha : SE T W n ta ma) (hb : SE T W n tb mb) (hc : SE T W n tc mc) : SE T W n (tChain r r' ta tb tc) (mChain f g ma mb mc) := fun F H σ τ ρ Φ Q hn I q => by
  refine se_then ha hn I q fun v x ρ1 F1 H1 s1 I1 r1 q1 => ?_
  refine pend_then hb hn I1 r1 q1 fun w x' y ρ2 F2 H2 s2 I2 r2 r3 q2 => ?_
  cases hx : datR ρ2 x' with
  | none => rw [hx] at q2; exact q2.elim
  | some d =>
    cases hy : datR ρ2 y with
    | none => rw [hx, hy] at q2; exact q2.elim
    | some e =>
      rw [hx, hy] at q2
      have q2 : EPost T W F2 σ τ Φ Q (ch3 mc g y ρ2 (f d e).bool) := q2
      have z := hr F2 H2 v w d e (fun z H3 => ∃ k, z = .bl k ∧ (if k = true then tc σ H3 fun w' H4 => r' w w' H4 Q else Q (.bl false) H3)) (r2.readR I2 hx) (r3.readR (I2.permX List.perm_append_comm) hy)
      refine z.2 ?_
      cases hfe : f d e with
      | st => rw [hfe] at q2; exact q2.elim
      | fr _ => rw [hfe] at q2; exact q2.elim
      | im c =>
        rw [hfe] at q2
        cases c with
        | bl b =>
          refine ⟨fun z rz => ?_, fun _ _ _ e => by cases e⟩
          cases rz
          refine ⟨b, rfl, ?_⟩
          have I3 : En T F2 (σ ++ τ) ρ2 Φ (y.rts w) H2 := I2.dropX
          cases b with
          | false => exact q2 _ F2 H2 (Same.refl F2) I3.dropAll (.bl false)
          | true =>
            show tc σ H2 _
            refine pend_then hc hn I3 r3 q2 fun u y' z ρ4 F4 H4 s4 I4 r4 r5 q4 => ?_
            cases hy' : datR ρ4 y' with
            | none => rw [hy'] at q4; exact q4.elim
            | some e' =>
              cases hz : datR ρ4 z with
              | none => rw [hy', hz] at q4; exact q4.elim
              | some h =>
                rw [hy', hz] at q4
                have z := hr' F4 H4 w u e' h Q (r4.readR I4 hy') (r5.readR (I4.permX List.perm_append_comm) hz)
                exact z.2 (Give.post I4 z.1 q4)
        | _ => exact q2.elim
/-! ### slices -/
def partOf : Rv → Option (Option Int)
  | .im .non => some none
  | .im (.int i) => some (some i)
  | _ => none
def OPost (T : Tb) (W : Wx) (F : Hp) (σ τ : List (Option V)) (Φ : Frm) (Q : Option Int → Hp → Prop) : ER → Prop
  | .ok r ρ' => ∃ o, partOf r = some o ∧ ∀ F' H', Same F F' → En T F' (σ ++ τ) ρ' Φ [] H' → Q o H'
  | .ex c w ρ' => ∀ d v F' H', Same F F' → En T F' (σ ++ τ) ρ' Φ [] H' → Rep T F' v w → H' d = some (.xd [("what", v)]) → F' d = none → Φ d = none → W (.ref (T.cls c)) (some d) σ H'
  | .st => False
def SO (T : Tb) (W : Wx) (n : Nat) (to : TO) (m : ME) : Prop := ∀ (F H : Hp) (σ τ : List (Option V)) (ρ : Rho) (Φ : Frm) (Q : Option Int → Hp → Prop), σ.length = n → En T F (σ ++ τ) ρ Φ [] H → OPost T W F σ τ Φ Q (m ρ) → to σ H Q
theorem so_none : SO T W n tNoPart (mC .non) := fun F H σ τ ρ Φ Q hn I q => by
  obtain ⟨o, e, q⟩ := q
  cases e
  exact q F H (Same.refl F) I
def Rv.int? : Rv → Option Int
  | .im (.int i) => some i
  | _ => none
theorem Rv.int_eq {r : Rv} {i : Int} (h : r.int? = some i) : r = .im (.int i) := by
  cases r with
  | fr _ => cases h
  | bo _ _ => cases h
  | im d => cases d <;> first | (cases h; done) | (rw [Option.some.inj h])
def intR (ρ : Rho) : Option Int → ER
  | some n => .ok (.im (.int n)) ρ
  | none => .st
def mInt (m : ME) : ME := fun ρ => (m ρ).bind fun r ρ1 => intR ρ1 r.int?
theorem so_some {te : TE} {m : ME} (h : SE T W n te m) : SO T W n (tPart te) (mInt m) := fun F H σ τ ρ Φ Q hn I q => by
  refine h F H σ τ ρ Φ _ hn I ?_
  unfold mInt at q
  cases e : m ρ with
  | st => rw [e] at q; exact q
  | ex c w ρ' => rw [e] at q; exact q
  | ok r ρ1 =>
    rw [e] at q
    have q : OPost T W F σ τ Φ Q (intR ρ1 r.int?) := q
    cases hi : r.int? with
    | none => rw [hi] at q; exact q.elim
    | some i =>
      rw [hi] at q
      have er := Rv.int_eq hi
      subst er
      intro v F1 H1 s1 I1 rr
      cases rr
      obtain ⟨o, e, q⟩ := q
      cases e
      exact ⟨i, rfl, q F1 H1 s1 I1⟩
def slP (ml : ME) (r : Rv) (ρ : Rho) (k : Rv → Option Int → Rho → ER) : ER := pend r ml ρ fun r l ρ2 => match partOf l with
  | some o => k r o ρ2
  | none => .st
def slR (l h : Option Int) : Option (Py × Rho) → ER
  | some (d, ρ) => (pySl d l h).er ρ
  | none => .st
def mSl (me ml mh : ME) : ME := fun ρ => (me ρ).bind fun x ρ1 => slP ml x ρ1 fun x l ρ2 => slP mh x ρ2 fun x h ρ3 => slR l h (flatR ρ3 x)
/-- a slice's part, while a value waits -/
theorem so_pend {to : TO} {m : ME} {r : Rv} {Q' : Option Int → Hp → Prop} (hb : SO T W n to m) (hn : σ.length = n) (I : En T F (σ ++ τ) ρ Φ (r.rts v) H) (rr : RR T F H (σ ++ τ) v r) {k : Rv → Option Int → Rho → ER} (q : EPost T W F σ τ Φ Q (slP m r ρ k))
    (next : ∀ r' o ρ2 F2 H2, Same F F2 → En T F2 (σ ++ τ) ρ2 Φ (r'.rts v) H2 → RR T F2 H2 (σ ++ τ) v r' → EPost T W F2 σ τ Φ Q (k r' o ρ2) → Q' o H2) : to σ H Q' := by
  unfold slP pend at q
  by_cases hs : r.stable = true
  · rw [if_pos hs] at q
    have hx : r.rts v = [] := by cases r <;> first | rfl | cases hs
    rw [hx] at I
    refine hb F H σ τ ρ Φ Q' hn I ?_
    cases e : m ρ with
    | st => rw [e] at q; exact q
    | ex c w ρ' => rw [e] at q; exact q
    | ok l ρ2 =>
      rw [e] at q
      have q : EPost T W F σ τ Φ Q (match partOf l with | some o => k r o ρ2 | none => .st) := q
      cases hp : partOf l with
      | none => rw [hp] at q; exact q.elim
      | some o =>
        rw [hp] at q
        refine ⟨o, hp, fun F2 H2 ex I2 => next r o ρ2 F2 H2 ex (by rw [hx]; exact I2) ?_ (EPost.mono ex q)⟩
        cases r with
        | im d => exact Rep.mono ex rr
        | fr d => trivial
        | bo i π =>
          cases π with
          | nil => obtain ⟨u, e, a⟩ := rr; exact ⟨u, e, a⟩
          | cons _ _ => cases hs
  · rw [if_neg hs] at q
    have I' := En.push (X := []) (by rw [List.append_nil]; exact I) rr
    rw [List.append_assoc] at I'
    have el : ρ.length = (σ ++ τ).length := I.len.symm
    refine hb F H σ (τ ++ [some v]) (ρ ++ [r.sl]) Φ Q' hn I' ?_
    cases e : m (ρ ++ [r.sl]) with
    | st => rw [e] at q; exact q
    | ex c w ρ' =>
      rw [e] at q
      exact fun d u F' H' ex I2 => q d u F' H' ex (En.front el (by rw [List.append_assoc]; exact I2) I.sg I.hio)
    | ok l ρ' =>
      rw [e] at q
      have q : EPost T W F σ τ Φ Q (pend2 ρ.length (fun r l ρ2 => match partOf l with | some o => k r o ρ2 | none => .st) l ρ' (popR ρ' ρ.length)) := q
      cases ep : popR ρ' ρ.length with
      | none => rw [ep] at q; exact q.elim
      | some r' =>
        rw [ep] at q
        have q : EPost T W F σ τ Φ Q (if l.within ρ.length = true then (match partOf l with | some o => k r' o (ρ'.front ρ.length) | none => .st) else .st) := q
        by_cases hw : l.within ρ.length = true
        · rw [if_pos hw] at q
          cases hp : partOf l with
          | none => rw [hp] at q; exact q.elim
          | some o =>
            rw [hp] at q
            refine ⟨o, hp, fun F2 H2 ex I2 => ?_⟩
            obtain ⟨I3, r3⟩ := En.pop el (by rw [List.append_assoc]; exact I2) ep I.sg I.hio
            rw [List.append_nil] at I3
            exact next r' o _ F2 H2 ex I3 r3 (EPost.mono ex q)
        · rw [if_neg hw] at q; exact q.elim
theorem se_sl {te : TE} {tl th : TO} {me ml mh : ME} (he : SE T W n te me) (hl : SO T W n tl ml) (hh : SO T W n th mh) : SE T W n (tSl (rSlAll T.K) te tl th) (mSl me ml mh) := fun F H σ τ ρ Φ Q hn I q => by
  refine se_then he hn I q fun v x ρ1 F1 H1 s1 I1 r1 q1 => ?_
  refine so_pend hl hn I1 r1 q1 fun x2 o ρ2 F2 H2 s2 I2 r2 q2 => ?_
  refine so_pend hh hn I2 r2 q2 fun x3 u ρ3 F3 H3 s3 I3 r3 q3 => ?_
  cases hd : flatR ρ3 x3 with
  | none => rw [hd] at q3; exact q3.elim
  | some z =>
    obtain ⟨d, ρ4⟩ := z
    rw [hd] at q3
    obtain ⟨F4, s4, I4, p4⟩ := flat_then (X := []) (by rw [List.append_nil]; exact I3) r3 hd
    refine k3_sl I4.fh p4 (Give.post I4 ?_ (EPost.mono s4 q3))
    cases d <;> first | trivial | (show OV.noTup (if _ then _ else _); split <;> trivial)
/-! ### a method of a text with one argument -/
def m1k (f : Str → Py → OV) (mb : ME) (ρ : Rho) : Rv → ER
  | .im (.str a) => (mb ρ).bind fun y ρ2 => op1 (f a) ρ2 (datR ρ2 y)
  | _ => .st
def mM1 (f : Str → Py → OV) (ma mb : ME) : ME := fun ρ => (ma ρ).bind fun x ρ1 => m1k f mb ρ1 x
/-- what it gives holds texts alone, or is one -/
def M1rd (T : Tb) (r : V → List V → Hp → VK → Prop) (f : Str → Py → OV) : Prop := ∀ (F H : Hp) (a : Str) (y : V) (e : Py) (Q : VK), Rep T H y e → (f a e).noTup ∧ (Give T F H Q (f a e) → r (.str a) [y] H Q)
theorem se_m1 {r : V → List V → Hp → VK → Prop} {f : Str → Py → OV} {to te : TE} {ma mb : ME} (hr : M1rd T r f) (ha : SE T W n to ma) (hb : SE T W n te mb) : SE T W n (tM1 r to te) (mM1 f ma mb) := fun F H σ τ ρ Φ Q hn I q => by
  refine se_then ha hn I q fun v x ρ1 F1 H1 s1 I1 r1 q1 => ?_
  cases x with
  | bo i π => exact q1.elim
  | fr d => exact q1.elim
  | im d =>
    cases d <;> try exact q1.elim
    rename_i a
    cases r1
    refine ⟨⟨a, rfl⟩, ?_⟩
    refine se_then hb hn I1 q1 fun u y ρ2 F2 H2 s2 I2 r2 q2 => ?_
    cases hy : datR ρ2 y with
    | none => rw [hy] at q2; exact q2.elim
    | some e =>
      rw [hy] at q2
      have z := hr F2 H2 a u e Q (r2.readR (X := []) (by rw [List.append_nil]; exact I2) hy)
      exact z.2 (Give.post I2 z.1 q2)
theorem m1_split : M1rd T rSplit fSplit := fun F H a y e Q p => by
  cases e <;> try exact ⟨trivial, fun q => q.elim⟩
  rename_i b
  by_cases h : (b.length == 0) = false ∧ a.length + 2 ≤ sizeLine
  · have e : fSplit a (.str b) = .fr (.lst ((Txt.split a b).map Py.str)) := if_pos h
    rw [e]
    cases p
    exact ⟨trivial, fun q => ⟨a, b, rfl, rfl, h.1, h.2, Give.lst (rep_strs F _) q⟩⟩
  · have e : fSplit a (.str b) = .st := if_neg h
    rw [e]
    exact ⟨trivial, fun q => q.elim⟩
theorem m1_join : M1rd T (rJoin T.K) fJoin := fun F H a y e Q p => by
  have at' : (fJoin a e).atom = true := by
    have go : ∀ o, (joinO a o).atom = true := fun o => by
      cases o with
      | none => rfl
      | some ys => show (OV.atom (if _ then _ else _)) = true; split <;> rfl
    cases e <;> first | rfl | exact go _
  exact ⟨atom_nt at', fun q => km_join H H a y e Q (Sm.refl H) (.inl p) (q.atom at')⟩
/-! ### isinstance(x, T) -/
def tyOfD : Py → Option String
  | .non => some "NoneType"
  | .bl _ => some "bool"
  | .int _ => some "int"
  | .str _ => some "str"
  | .tup _ => some "tuple"
  | .lst _ => some "list"
  | .scr _ => some "list"
  | .dic _ _ _ => some "dict"
  | _ => none
end
end Mr
/-! Dp: statements, targets -/
namespace Mr
open PySem L2

inductive SR where
  | nx (ρ : Rho)
  | rt (r : Rv) (ρ : Rho)
  | bk (ρ : Rho)
  | ct (ρ : Rho)
  | ex (c : Nat) (w : Py) (ρ : Rho)
  | st
abbrev MS := Rho → SR
def SPost (T : Tb) (W : Wx) (n : Nat) (F : Hp) (τ : List (Option V)) (Φ : Frm) (D : Ends) : SR → Prop
  | .nx ρ' => ∀ (σ' : L2.St) F' H', Same F F' → σ'.length = n → En T F' (σ' ++ τ) ρ' Φ [] H' → D.nx σ' H'
  | .bk ρ' => ∀ (σ' : L2.St) F' H', Same F F' → σ'.length = n → En T F' (σ' ++ τ) ρ' Φ [] H' → D.bk σ' H'
  | .ct ρ' => ∀ (σ' : L2.St) F' H', Same F F' → σ'.length = n → En T F' (σ' ++ τ) ρ' Φ [] H' → D.ct σ' H'
  | .rt r ρ' => ∀ v (σ' : L2.St) F' H', Same F F' → σ'.length = n → En T F' (σ' ++ τ) ρ' Φ (r.rts v) H' → RR T F' H' (σ' ++ τ) v r → D.rt v H'
  | .ex c w ρ' => ∀ d v (σ' : L2.St) F' H', Same F F' → σ'.length = n → En T F' (σ' ++ τ) ρ' Φ [] H' → Rep T F' v w → H' d = some (.xd [("what", v)]) → F' d = none → Φ d = none → W (.ref (T.cls c)) (some d) σ' H'
  | .st => False
def SS (T : Tb) (W : Wx) (n : Nat) (ts : TS) (m : MS) : Prop := ∀ (F H : Hp) (σ : L2.St) (τ : List (Option V)) (ρ : Rho) (Φ : Frm) (D : Ends), σ.length = n → En T F (σ ++ τ) ρ Φ [] H → SPost T W n F τ Φ D (m ρ) → ts D σ H
section
variable {T : Tb} {W : Wx} {n : Nat} {F F1 F2 F' H H1 H2 H' : Hp} {Φ : Frm} {σ σ1 : L2.St} {τ S : List (Option V)} {ρ ρ1 ρ2 : Rho} {D : Ends} {X Y : Rts} {v : V} {d : Py}
theorem SPost.mono (s : Same F F1) : ∀ {x : SR}, SPost T W n F τ Φ D x → SPost T W n F1 τ Φ D x
  | .nx _, h => fun σ' F' H' e => h σ' F' H' (s.trans e)
  | .bk _, h => fun σ' F' H' e => h σ' F' H' (s.trans e)
  | .ct _, h => fun σ' F' H' e => h σ' F' H' (s.trans e)
  | .rt _ _, h => fun v σ' F' H' e => h v σ' F' H' (s.trans e)
  | .ex _ _ _, h => fun d v σ' F' H' e => h d v σ' F' H' (s.trans e)
  | .st, h => h
theorem SPost.ends {D D' : Ends} {x : SR} (h : SPost T W n F τ Φ D x) (e1 : D.nx = D'.nx) (e2 : D.rt = D'.rt) (e3 : D.bk = D'.bk) (e4 : D.ct = D'.ct) : SPost T W n F τ Φ D' x := by
  obtain ⟨a, b, c, d⟩ := D
  obtain ⟨a', b', c', d'⟩ := D'
  cases e1; cases e2; cases e3; cases e4
  exact h
def SR.bind (x : SR) (k : MS) : SR := match x with
  | .nx ρ => k ρ
  | x => x
def mSeq (a b : MS) : MS := fun ρ => (a ρ).bind b
theorem ss_seq {t u : TS} {mt mu : MS} (h : SS T W n t mt) (k : SS T W n u mu) : SS T W n (tSeq t u) (mSeq mt mu) := fun F H σ τ ρ Φ D hn I q => by
  refine h F H σ τ ρ Φ _ hn I ?_
  have q : SPost T W n F τ Φ D ((mt ρ).bind mu) := q
  cases e : mt ρ with
  | nx ρ1 =>
    rw [e] at q
    exact fun σ1 F1 H1 s1 h1 I1 => k F1 H1 σ1 τ ρ1 Φ D h1 I1 (SPost.mono s1 q)
  | rt r ρ1 => rw [e] at q; exact q
  | bk ρ1 => rw [e] at q; exact q
  | ct ρ1 => rw [e] at q; exact q
  | ex c w ρ1 => rw [e] at q; exact q
  | st => rw [e] at q; exact q
def mNext : MS := fun ρ => .nx ρ
theorem ss_next : SS T W n tNext mNext := fun F H σ τ ρ Φ D hn I q => q σ F H (Same.refl F) hn I
def mBreak : MS := fun ρ => .bk ρ
theorem ss_break : SS T W n tBreak mBreak := fun F H σ τ ρ Φ D hn I q => q σ F H (Same.refl F) hn I
def mCont : MS := fun ρ => .ct ρ
theorem ss_cont : SS T W n tCont mCont := fun F H σ τ ρ Φ D hn I q => q σ F H (Same.refl F) hn I
def mDead : MS := fun _ => .st
theorem ss_dead : SS T W n (fun _ _ _ => False) mDead := fun _ _ _ _ _ _ _ _ _ q => q
def ER.then (x : ER) (k : Rv → Rho → SR) : SR := match x with
  | .ok r ρ => k r ρ
  | .ex c w ρ => .ex c w ρ
  | .st => .st
/-- an expression, then a statement's rest -/
theorem ss_then {te : TE} {m : ME} (h : SE T W n te m) (hn : σ.length = n) (I : En T F (σ ++ τ) ρ Φ [] H) {k : Rv → Rho → SR} {Q' : VK} (q : SPost T W n F τ Φ D ((m ρ).then k))
    (next : ∀ v r ρ1 F1 H1, Same F F1 → En T F1 (σ ++ τ) ρ1 Φ (r.rts v) H1 → RR T F1 H1 (σ ++ τ) v r → SPost T W n F1 τ Φ D (k r ρ1) → Q' v H1) : te σ H Q' := by
  refine h F H σ τ ρ Φ Q' hn I ?_
  cases e : m ρ with
  | st => rw [e] at q; exact q
  | ex c w ρ' => rw [e] at q; exact fun d v F' H' s1 I1 => q d v σ F' H' s1 hn I1
  | ok r ρ1 =>
    rw [e] at q
    exact fun v F1 H1 s1 I1 r1 => next v r ρ1 F1 H1 s1 I1 r1 (SPost.mono s1 q)
def mDrop (m : ME) : MS := fun ρ => (m ρ).then fun _ ρ1 => .nx ρ1
theorem ss_drop {te : TE} {m : ME} (h : SE T W n te m) : SS T W n (tDrop te) (mDrop m) := fun F H σ τ ρ Φ D hn I q => by
  refine ss_then h hn I q fun v r ρ1 F1 H1 s1 I1 r1 q1 => ?_
  exact q1 σ F1 H1 (Same.refl F1) hn I1.dropAll
def mRet (m : ME) : MS := fun ρ => (m ρ).then fun r ρ1 => .rt r ρ1
theorem ss_ret {te : TE} {m : ME} (h : SE T W n te m) : SS T W n (tRet te) (mRet m) := fun F H σ τ ρ Φ D hn I q => by
  refine ss_then h hn I q fun v r ρ1 F1 H1 s1 I1 r1 q1 => ?_
  exact q1 v σ F1 H1 (Same.refl F1) hn I1 r1
def mRetN : MS := fun ρ => .rt (.im .non) ρ
theorem ss_retN : SS T W n tRetN mRetN := fun F H σ τ ρ Φ D hn I q => q .non σ F H (Same.refl F) hn I .non
def ifS (a b : MS) (ρ : Rho) : Option Bool → SR
  | some true => a ρ
  | some false => b ρ
  | none => .st
def mIfS (mt : ME) (ma mb : MS) : MS := fun ρ => (mt ρ).then fun r ρ1 => ifS ma mb ρ1 r.bl?
theorem ss_if {tt : TT} {t u : TS} {mt : ME} {ma mb : MS} (h : ST T W n tt mt) (ha : SS T W n t ma) (hb : SS T W n u mb) : SS T W n (tIfS tt t u) (mIfS mt ma mb) := fun F H σ τ ρ Φ D hn I q => by
  refine h F H σ τ ρ Φ _ hn I ?_
  have q : SPost T W n F τ Φ D ((mt ρ).then fun r ρ1 => ifS ma mb ρ1 r.bl?) := q
  cases e : mt ρ with
  | st => rw [e] at q; exact q
  | ex c w ρ' => rw [e] at q; exact fun d v F' H' s1 I1 => q d v σ F' H' s1 hn I1
  | ok r ρ1 =>
    rw [e] at q
    have q : SPost T W n F τ Φ D (ifS ma mb ρ1 r.bl?) := q
    cases eb : r.bl? with
    | none => rw [eb] at q; exact q.elim
    | some b =>
      rw [eb] at q
      refine ⟨b, bl_eq eb, fun F1 H1 s1 I1 => ?_⟩
      cases b with
      | true => exact ha F1 H1 σ τ ρ1 Φ D hn I1 (SPost.mono s1 q)
      | false => exact hb F1 H1 σ τ ρ1 Φ D hn I1 (SPost.mono s1 q)
/-! ### slots are set -/
def Sl.kill (i : Nat) : Sl → Sl
  | .al j π => if j = i then .no else .al j π
  | s => s
def Rho.kill (ρ : Rho) (i : Nat) : Rho := ρ.map (Sl.kill i)
theorem calm_kill (i : Nat) : Calm (Sl.kill i) := ⟨fun _ _ => rfl, fun s h => by
  cases s with
  | al j π => show (if j = i then Sl.no else Sl.al j π).isOw = false; split <;> rfl
  | ow _ _ => cases h
  | _ => rfl⟩
def setS2 (ρ : Rho) (i : Nat) (s : Sl) : Option Sl → Option Rho
  | some old => if old.isIo = true then none else some ((ρ.kill i).set i s)
  | none => none
def setS (ρ : Rho) (i : Nat) (s : Sl) : Option Rho := setS2 ρ i s ρ[i]?
def setSub (ρ : Rho) (i : Nat) (π : List Nat) : Option Sl → Option Rho
  | some (.ow false t) => (match t.getP π with
    | some d => if d.imm = true then none else setS ρ i (.ow false d)
    | none => none)
  | _ => none
def setRv (i : Nat) (r : Rv) (ρ : Rho) : Option Rho := match r with
  | .im d => setS ρ i (.im false d)
  | .fr d => setS ρ i (.ow false d)
  | .bo j π => if j = i then setSub ρ i π ρ[i]? else setS ρ i (.al j π)
def optS (o : Option Rho) : SR := match o with
  | some ρ => .nx ρ
  | none => .st
theorem setS_some {i : Nat} {s : Sl} (h : setS ρ i s = some ρ1) : (i < ρ.length ∧ ∀ s, ρ[i]? = some s → s.isIo = false) ∧ ρ1 = (ρ.kill i).set i s := by
  unfold setS at h
  cases e : ρ[i]? with
  | none => rw [e] at h; cases h
  | some old =>
    rw [e] at h
    have h : (if old.isIo = true then none else some ((ρ.kill i).set i s)) = some ρ1 := h
    by_cases q : old.isIo = true
    · rw [if_pos q] at h; cases h
    · rw [if_neg q] at h; cases h; exact ⟨⟨(List.getElem?_eq_some_iff.mp e).1, fun s z => by (first | (rw [e] at z; cases z; simpa using q) | (cases z; simpa using q))⟩, rfl⟩
/-- a slot is emptied, its old tree put beside -/
theorem En.empty {i : Nat} (I : En T F S ρ Φ X H) (hi0 : i < ρ.length ∧ ∀ s, ρ[i]? = some s → s.isIo = false) : ∃ Z, En T F S ((ρ.kill i).set i .no) Φ (Z ++ X) H := by
  have hi := hi0.1
  obtain ⟨s, hs⟩ : ∃ s, ρ[i]? = some s := ⟨_, List.getElem?_eq_getElem hi⟩
  have hl : i < (ρ.kill i).length := by unfold Rho.kill; rw [List.length_map]; exact hi
  have slots : ∀ (k : Nat) (s' : Sl), ((ρ.kill i).set i .no)[k]? = some s' → SlOk T F H S k s' := fun k s' e => by
    by_cases hk : i = k
    · subst hk; rw [List.getElem?_set_self hl] at e; cases e; trivial
    · rw [List.getElem?_set_ne hk] at e
      unfold Rho.kill at e
      rw [List.getElem?_map] at e
      cases h0 : ρ[k]? with
      | none => rw [h0] at e; cases e
      | some s0 =>
        rw [h0] at e
        have e := Option.some.inj e
        subst e
        have ok := I.sl k s0 h0
        cases s0 with
        | no => trivial
        | im io d => exact ok
        | ow io d => exact ok
        | al j π =>
          show SlOk T F H S k (if j = i then .no else .al j π)
          by_cases hj : j = i
          · rw [if_pos hj]; trivial
          · rw [if_neg hj]; exact ok
  have e1 : rts S ((ρ.kill i).set i .no) = rts S (ρ.set i .no) := by
    have z : (ρ.kill i).set i .no = Rho.kill (ρ.set i .no) i := by unfold Rho.kill; rw [List.map_set]; rfl
    rw [z]; unfold Rho.kill; rw [rts_map (calm_kill i)]
  have ios : ∀ k v, Φ.io k = some v → S[k]? = some (some v) ∧ ∃ s, ((ρ.kill i).set i .no)[k]? = some s ∧ s.isIo = true := fun k v e => by
    obtain ⟨z1, s', z2, z3⟩ := I.io k v e
    have hk : i ≠ k := fun z => by subst z; rw [hi0.2 s' z2] at z3; cases z3
    refine ⟨z1, s', ?_, z3⟩
    rw [List.getElem?_set_ne hk]
    unfold Rho.kill
    rw [List.getElem?_map, z2]
    cases s' with
    | al _ _ => cases z3
    | _ => rfl
  cases hw : s.isOw with
  | false =>
    refine ⟨[], I.fh, I.lo, ?_, I.sg, I.ph, slots, ?_, ios, I.lk, I.lkx⟩
    · rw [List.length_set]; unfold Rho.kill; rw [List.length_map]; exact I.len
    · rw [e1, rts_out rfl hw hs]; exact I.rt
  | true =>
    cases s <;> try cases hw
    rename_i io t
    obtain ⟨u, hu⟩ := I.sl i _ hs
    refine ⟨[(u, t)], I.fh, I.lo, ?_, I.sg, I.ph, slots, ?_, ios, I.lk, I.lkx⟩
    · rw [List.length_set]; unfold Rho.kill; rw [List.length_map]; exact I.len
    · rw [e1]
      exact I.rt.perm ((List.Perm.append_left X (rts_take (s := .no) rfl hs hu)).trans List.perm_middle)
theorem fill_io {i : Nat} {s : Sl} {x : Option V} (hs : ρ[i]? = some .no) (io : ∀ k v, Φ.io k = some v → S[k]? = some (some v) ∧ ∃ s, ρ[k]? = some s ∧ s.isIo = true) : ∀ k v, Φ.io k = some v → (S.set i x)[k]? = some (some v) ∧ ∃ s', (ρ.set i s)[k]? = some s' ∧ s'.isIo = true := fun k v e => by
  obtain ⟨z1, s', z2, z3⟩ := io k v e
  have hk : i ≠ k := fun z => by subst z; rw [hs] at z2; cases z2; cases z3
  exact ⟨by rw [List.getElem?_set_ne hk]; exact z1, s', by rw [List.getElem?_set_ne hk]; exact z2, z3⟩
/-- an empty slot gets a value -/
theorem En.fill [hT : NoSg T] {i : Nat} {s : Sl} (I : En T F S ρ Φ X H) (hs : ρ[i]? = some .no) (na : ∀ (k j : Nat) π, ρ[k]? = some (.al j π) → j ≠ i) (ok : SlOk T F H (S.set i (some v)) i s) (hw : s.isOw = false) : En T F (S.set i (some v)) (ρ.set i s) Φ X H := by
  have hl : i < ρ.length := (List.getElem?_eq_some_iff.mp hs).1
  refine ⟨I.fh, I.lo, by rw [List.length_set, List.length_set]; exact I.len, fun s e => by (rw [hT.h] at e; cases e), I.ph, fun k s' e => ?_, ?_, fill_io hs I.io, I.lk, I.lkx⟩
  · by_cases hk : i = k
    · subst hk; rw [List.getElem?_set_self hl] at e; cases e; exact ok
    · rw [List.getElem?_set_ne hk] at e
      have q := I.sl k s' e
      cases s' with
      | no => trivial
      | im io d => obtain ⟨w, e1, r⟩ := q; exact ⟨w, by rw [List.getElem?_set_ne hk]; exact e1, r⟩
      | ow io d => obtain ⟨w, e1⟩ := q; exact ⟨w, by rw [List.getElem?_set_ne hk]; exact e1⟩
      | al j π =>
        obtain ⟨w, u, e1, e2, a⟩ := q
        exact ⟨w, u, by rw [List.getElem?_set_ne hk]; exact e1, by rw [List.getElem?_set_ne (Ne.symm (na k j π e))]; exact e2, a⟩
  · have z : rts (S.set i (some v)) (ρ.set i s) = rts S ρ := by
      rw [rts_out hw rfl hs, rts_sv rfl hs]
    rw [z]; exact I.rt
theorem En.fillO [hT : NoSg T] {i : Nat} {io : Bool} {t : Py} (I : En T F S ρ Φ ((v, t) :: X) H) (hs : ρ[i]? = some .no) (na : ∀ (k j : Nat) π, ρ[k]? = some (.al j π) → j ≠ i) : En T F (S.set i (some v)) (ρ.set i (.ow io t)) Φ X H := by
  have hl : i < ρ.length := (List.getElem?_eq_some_iff.mp hs).1
  have hS : i < S.length := by rw [I.len]; exact hl
  refine ⟨I.fh, I.lo, by rw [List.length_set, List.length_set]; exact I.len, fun s e => by (rw [hT.h] at e; cases e), I.ph, fun k s' e => ?_, ?_, fill_io hs I.io, I.lk, I.lkx⟩
  · by_cases hk : i = k
    · subst hk; rw [List.getElem?_set_self hl] at e; cases e; exact ⟨v, List.getElem?_set_self hS⟩
    · rw [List.getElem?_set_ne hk] at e
      have q := I.sl k s' e
      cases s' with
      | no => trivial
      | im io d => obtain ⟨w, e1, r⟩ := q; exact ⟨w, by rw [List.getElem?_set_ne hk]; exact e1, r⟩
      | ow io d => obtain ⟨w, e1⟩ := q; exact ⟨w, by rw [List.getElem?_set_ne hk]; exact e1⟩
      | al j π =>
        obtain ⟨w, u, e1, e2, a⟩ := q
        exact ⟨w, u, by rw [List.getElem?_set_ne hk]; exact e1, by rw [List.getElem?_set_ne (Ne.symm (na k j π e))]; exact e2, a⟩
  · have p := rts_put (s' := .no) rfl (v := v) (io := io) (t := t) (σ := S.set i (some v)) hs (List.getElem?_set_self hS)
    rw [rts_sv rfl hs] at p
    exact I.rt.perm ((List.perm_middle.symm).trans (List.Perm.append_left X p.symm))
theorem kill_na {i : Nat} {s : Sl} (hs : ∀ j π, s ≠ .al j π) (k j : Nat) (π : List Nat) (e : ((ρ.kill i).set i s)[k]? = some (.al j π)) : j ≠ i := by
  by_cases hk : i = k
  · subst hk
    by_cases hl : i < (ρ.kill i).length
    · rw [List.getElem?_set_self hl] at e; exact absurd (Option.some.inj e) (hs j π)
    · rw [List.getElem?_eq_none (by rw [List.length_set]; omega)] at e; cases e
  · rw [List.getElem?_set_ne hk] at e
    unfold Rho.kill at e
    rw [List.getElem?_map] at e
    cases h0 : ρ[k]? with
    | none => rw [h0] at e; cases e
    | some s0 =>
      rw [h0] at e
      have e := Option.some.inj e
      cases s0 with
      | al j' π' =>
        have e : (if j' = i then Sl.no else .al j' π') = .al j π := e
        by_cases hj : j' = i
        · rw [if_pos hj] at e; cases e
        · rw [if_neg hj] at e; cases e; exact hj
      | _ => cases e
theorem set_rv [NoSg T] {i : Nat} {r : Rv} (I : En T F S ρ Φ (r.rts v ++ X) H) (rr : RR T F H S v r) (e : setRv i r ρ = some ρ1) : En T F (S.set i (some v)) ρ1 Φ X H := by
  have step : ∀ {s : Sl} {Y : Rts}, En T F S ρ Φ Y H → setS ρ i s = some ρ1 → ∃ Z, En T F S ((ρ.kill i).set i .no) Φ (Z ++ Y) H ∧ ((ρ.kill i).set i .no)[i]? = some .no ∧ ρ1 = ((ρ.kill i).set i .no).set i s := fun {s Y} I e => by
    obtain ⟨hi, e1⟩ := setS_some e
    obtain ⟨Z, I1⟩ := I.empty hi
    exact ⟨Z, I1, List.getElem?_set_self (by unfold Rho.kill; rw [List.length_map]; exact hi.1), by rw [List.set_set]; exact e1⟩
  cases r with
  | im d =>
    obtain ⟨Z, I1, hs, rfl⟩ := step I e
    have hS : i < S.length := by rw [I1.len]; exact (List.getElem?_eq_some_iff.mp hs).1
    exact (En.fill I1.dropX hs (fun k j π => kill_na (by intro _ _ z; cases z) k j π) ⟨v, List.getElem?_set_self hS, rr⟩ rfl)
  | fr d =>
    obtain ⟨Z, I1, hs, rfl⟩ := step I e
    have I2 : En T F S ((ρ.kill i).set i .no) Φ ((v, d) :: (Z ++ X)) H := I1.permX List.perm_middle
    have I3 := En.fillO (io := false) I2 hs (fun k j π => kill_na (by intro _ _ z; cases z) k j π)
    exact I3.dropX
  | bo j π =>
    obtain ⟨u, e1, a⟩ := rr
    have e : (if j = i then setSub ρ i π ρ[i]? else setS ρ i (.al j π)) = some ρ1 := e
    by_cases hj : j = i
    · rw [if_pos hj] at e
      subst hj
      cases h0 : ρ[j]? with
      | none => rw [h0] at e; cases e
      | some s0 =>
        rw [h0] at e
        cases s0 with
        | ow io t =>
          cases io with
          | true => cases e
          | false =>
            have e : (match t.getP π with | some d => if d.imm = true then none else setS ρ j (.ow false d) | none => none) = some ρ1 := e
            cases hg : t.getP π with
            | none => rw [hg] at e; cases e
            | some d =>
              rw [hg] at e
              have e : (if d.imm = true then none else setS ρ j (.ow false d)) = some ρ1 := e
              by_cases him : d.imm = true
              · rw [if_pos him] at e; cases e
              · rw [if_neg him] at e
                obtain ⟨hi, e2⟩ := setS_some e
                -- the old root's part is the new root
                have q : Sep T F H Φ ((u, t) :: (X ++ rts S (ρ.set j .no))) := I.rt.perm ((List.Perm.append_left X (rts_take (s := .no) rfl h0 e1)).trans List.perm_middle)
                obtain ⟨A, r, nd, f⟩ := q
                cases r with
                | cons h r =>
                  obtain ⟨u', B, pre, post, e3, t2, a2, put⟩ := h.focus hg (.inr (by simpa using him))
                  cases a.one a2
                  rename_i A' C
                  have sub : Sub (B ++ C) (A' ++ C) := (show Sub B A' from ⟨pre ++ post, by
                    rw [e3, ← List.append_assoc, ← List.append_assoc]
                    exact List.Perm.append_right post List.perm_append_comm⟩).app (Sub.refl C)
                  have s2 : Sep T F H Φ ((v, d) :: (X ++ rts S (ρ.set j .no))) := ⟨B ++ C, .cons t2 r, sub.nodup nd, fun x hx => f x (sub.mem hx)⟩
                  obtain ⟨Z, I1⟩ := I.empty hi
                  have e4 : rts S ((ρ.kill j).set j .no) = rts S (ρ.set j .no) := by
                    have z : (ρ.kill j).set j .no = Rho.kill (ρ.set j .no) j := by unfold Rho.kill; rw [List.map_set]; rfl
                    rw [z]; unfold Rho.kill; rw [rts_map (calm_kill j)]
                  have I2 : En T F S ((ρ.kill j).set j .no) Φ ((v, d) :: X) H := ⟨I1.fh, I1.lo, I1.len, I1.sg, I1.ph, I1.sl, by rw [e4]; exact s2, I1.io, I1.lk, I1.lkx⟩
                  have I3 := En.fillO (io := false) I2 (List.getElem?_set_self (by unfold Rho.kill; rw [List.length_map]; exact hi.1)) (fun k j' π => kill_na (by intro _ _ z; cases z) k j' π)
                  rw [List.set_set, ← e2] at I3
                  exact I3
        | _ => cases e
    · rw [if_neg hj] at e
      obtain ⟨Z, I1, hs, rfl⟩ := step I e
      have hS : i < S.length := by rw [I1.len]; exact (List.getElem?_eq_some_iff.mp hs).1
      refine (En.fill I1.dropX hs (fun k j π => kill_na (by intro _ _ z; cases z) k j π) ⟨v, u, List.getElem?_set_self hS, by rw [List.getElem?_set_ne (Ne.symm hj)]; exact e1, a⟩ rfl)
theorem set_app {α : Type} {l k : List α} {i : Nat} {a : α} (h : i < l.length) : (l ++ k).set i a = l.set i a ++ k := List.set_append_left _ _ h
def mSet (i : Nat) (m : ME) : MS := fun ρ => (m ρ).then fun r ρ1 => optS (setRv i r ρ1)
theorem ss_set [NoSg T] {te : TE} {m : ME} (i : Nat) (h : SE T W n te m) (hi : i < n := by decide) : SS T W n (tAsg te (gName i)) (mSet i m) := fun F H σ τ ρ Φ D hn I q => by
  refine ss_then h hn I q fun v r ρ1 F1 H1 s1 I1 rr q1 => ?_
  cases e : setRv i r ρ1 with
  | none => rw [e] at q1; exact q1.elim
  | some ρ2 =>
    rw [e] at q1
    have I2 := set_rv (X := []) (by rw [List.append_nil]; exact I1) rr e
    rw [set_app (by rw [hn]; exact hi)] at I2
    exact q1 _ F1 H1 (Same.refl F1) (by rw [List.length_set]; exact hn) I2
/-- x op= e -/
def mAug (i : Nat) (f : Py → Py → OV) (m : ME) : MS := fun ρ => (mOp f (mVar i) m ρ).then fun r ρ1 => optS (setRv i r ρ1)
theorem ss_aug [NoSg T] {te : TE} {m : ME} {r : R2} {f : Py → Py → OV} (i : Nat) (hr : R2rd T r f) (h : SE T W n te m) (hi : i < n := by decide) : SS T W n (tAug i te r) (mAug i f m) := fun F H σ τ ρ Φ D hn I q => by
  have all : SS T W n (tAsg (tOp r (tVar i) te) (gName i)) (mAug i f m) := ss_set i (se_op hr (se_var i hi) h) hi
  obtain ⟨x, e1, k⟩ := all F H σ τ ρ Φ D hn I q
  exact ⟨x, e1, k⟩
/-! ### targets -/
abbrev MG := Rv → Rho → Option Rho
def SG (T : Tb) (n : Nat) (ts : List Nat) (g : TG) (mg : MG) : Prop := ∀ (F H : Hp) (σ : L2.St) (τ : List (Option V)) (ρ : Rho) (Φ : Frm) (X : Rts) (v : V) (r : Rv) (ρ' : Rho) (Q : L2.St → Hp → Prop), σ.length = n → En T F (σ ++ τ) ρ Φ (r.rts v ++ X) H → RR T F H (σ ++ τ) v r → mg r ρ = some ρ' →
  (∀ (σ' : L2.St) F' H', Same F F' → σ'.length = n → (∀ j, j ∉ ts → σ'[j]? = σ[j]?) → En T F' (σ' ++ τ) ρ' Φ X H' → Q σ' H') → g v σ H Q
abbrev MGs := List Rv → Rho → Option Rho
/-- a value that no slot bears -/
def Rv.free : Rv → Bool
  | .bo _ _ => false
  | _ => true
def SGs (T : Tb) (n : Nat) (ts : List Nat) (g : TGs) (mg : MGs) : Prop := ∀ (F H : Hp) (σ : L2.St) (τ : List (Option V)) (ρ : Rho) (Φ : Frm) (X : Rts) (vs : List V) (rs : List Rv) (ρ' : Rho) (Q : L2.St → Hp → Prop), σ.length = n → En T F (σ ++ τ) ρ Φ (rtsL vs rs ++ X) H → RRL T F H (σ ++ τ) vs rs → rs.all Rv.free = true → mg rs ρ = some ρ' →
  (∀ (σ' : L2.St) F' H', Same F F' → σ'.length = n → (∀ j, j ∉ ts → σ'[j]? = σ[j]?) → En T F' (σ' ++ τ) ρ' Φ X H' → Q σ' H') → g vs σ H Q
def gN (i : Nat) : MG := fun r ρ => setRv i r ρ
theorem sg_name [NoSg T] (i : Nat) (hi : i < n := by decide) : SG T n [i] (gName i) (gN i) := fun F H σ τ ρ Φ X v r ρ' Q hn I rr e q => by
  have I2 := set_rv I rr e
  rw [set_app (by rw [hn]; exact hi)] at I2
  exact q _ F H (Same.refl F) (by rw [List.length_set]; exact hn) (fun j hj => List.getElem?_set_ne fun z => hj (by rw [z]; exact List.mem_singleton.mpr rfl)) I2
def gs0 : MGs
  | [], ρ => some ρ
  | _, _ => none
def gs2 (gs : MGs) (rs : List Rv) : Option Rho → Option Rho
  | some ρ => gs rs ρ
  | none => none
def gs1 (g : MG) (gs : MGs) : MGs
  | r :: rs, ρ => gs2 gs rs (g r ρ)
  | [], _ => none
theorem sgs_nil : SGs T n [] gNil gs0 := fun F H σ τ ρ Φ X vs rs ρ' Q hn I rr hf e q => by
  cases rr with
  | nil => cases e; exact ⟨rfl, q σ F H (Same.refl F) hn (fun _ _ => rfl) I⟩
  | cons _ _ => cases e
theorem RRL.freeMono {vs : List V} {rs : List Rv} {S' : List (Option V)} (ex : Same F F') (h : RRL T F H S vs rs) (hf : rs.all Rv.free = true) : RRL T F' H' S' vs rs := by
  induction h with
  | nil => exact .nil
  | cons h _ ih =>
    rw [List.all_cons] at hf
    have hf2 := Bool.and_eq_true_iff.mp hf
    refine .cons ?_ (ih hf2.2)
    rename_i v r vs rs hh
    cases r with
    | im d => exact Rep.mono ex h
    | fr d => trivial
    | bo _ _ => cases hf2.1
theorem sgs_cons {ts us : List Nat} {g : TG} {u : TGs} {mg : MG} {mu : MGs} (h : SG T n ts g mg) (k : SGs T n us u mu) : SGs T n (ts ++ us) (gCons g u) (gs1 mg mu) := fun F H σ τ ρ Φ X vs rs ρ' Q hn I rr hf e q => by
  cases rr with
  | nil => cases e
  | cons hr rr =>
    rename_i v r vs rs
    have e : gs2 mu rs (mg r ρ) = some ρ' := e
    cases e1 : mg r ρ with
    | none => rw [e1] at e; cases e
    | some ρ1 =>
      rw [e1] at e
      rw [List.all_cons] at hf
      have hf := Bool.and_eq_true_iff.mp hf
      have I : En T F (σ ++ τ) ρ Φ (r.rts v ++ (rtsL vs rs ++ X)) H := by rw [← List.append_assoc]; exact I
      exact ⟨v, vs, rfl, h F H σ τ ρ Φ _ v r ρ1 _ hn I hr e1 fun σ1 F1 H1 s1 h1 t1 I1 => k F1 H1 σ1 τ ρ1 Φ X vs rs ρ' Q h1 I1 (rr.freeMono s1 hf.2) hf.2 e fun σ2 F2 H2 s2 h2 t2 => q σ2 F2 H2 (s1.trans s2) h2 fun j hj => (t2 j fun z => hj (List.mem_append_right _ z)).trans (t1 j fun z => hj (List.mem_append_left _ z))⟩
/-- the parts of a tuple -/
def kid1 (k : Py) : Rv := if k.imm = true then .im k else match k with
  | .fz d => .im d.unfz
  | d => .fr d
def unB (ρ : Rho) (i : Nat) (π : List Nat) : Option Py → Option (List Rv × Rho)
  | some (.tup l) => some (l.map fun k => .im k.unfz, ρ.stayA i π)
  | _ => none
def unTup (ρ : Rho) : Rv → Option (List Rv × Rho)
  | .im (.tup l) => some (l.map fun k => .im k.unfz, ρ)
  | .fr (.tup l) => some (l.map kid1, ρ)
  | .bo i π => unB ρ i π (datR ρ (.bo i π))
  | _ => none
theorem unf_free (l : List Py) : ((l.map fun k => Rv.im k.unfz).all Rv.free) = true := by
  rw [List.all_map]; exact List.all_eq_true.mpr fun _ _ => rfl
theorem unf_ok {xs : List V} {l : List Py} (h : RepL T F xs l) : rtsL xs (l.map fun k => Rv.im k.unfz) = [] ∧ RRL T F H S xs (l.map fun k => Rv.im k.unfz) := by
  induction l generalizing xs with
  | nil => cases h; exact ⟨rfl, .nil⟩
  | cons d l ih =>
    cases h with
    | cons h r =>
      obtain ⟨i1, i2⟩ := ih r
      exact ⟨i1, .cons h.unfz i2⟩
theorem kid1_free (k : Py) : (kid1 k).free = true := by
  unfold kid1
  by_cases z : k.imm = true
  · rw [if_pos z]; rfl
  · rw [if_neg z]; cases k <;> rfl
theorem kid1_ok {w : V} {k : Py} {A : List Addr} (h : Tr T F H w k A) : RR T F H S w (kid1 k) ∧ ((kid1 k).rts w = [] ∧ A = [] ∨ (kid1 k).rts w = [(w, k)]) := by
  unfold kid1
  cases h with
  | leaf h i => rw [if_pos i]; exact ⟨h, .inl ⟨rfl, rfl⟩⟩
  | fz h => rw [if_neg (by simp [Py.imm])]; exact ⟨h.unfz, .inl ⟨rfl, rfl⟩⟩
  | node hp s i r =>
    rw [if_neg (by rw [i]; decide)]
    cases s <;> exact ⟨trivial, .inr rfl⟩
theorem kids_ok : ∀ {xs : List V} {l : List Py} {A : List Addr}, TrL T F H xs l A → RRL T F H S xs (l.map kid1) ∧ ∃ B, TrP T F H (rtsL xs (l.map kid1)) B ∧ A = B
  | _, _, _, .nil => ⟨.nil, [], .nil, rfl⟩
  | _, _, _, .cons h r => by
    obtain ⟨i1, B, i2, i3⟩ := kids_ok r
    obtain ⟨k1, k2⟩ := kid1_ok (S := S) h
    refine ⟨.cons k1 i1, ?_⟩
    rcases k2 with ⟨e1, e2⟩ | e1
    · exact ⟨B, by rw [List.map_cons]; show TrP T F H ((kid1 _).rts _ ++ rtsL _ _) B; rw [e1]; exact i2, by rw [e2, i3]; rfl⟩
    · refine ⟨_ ++ B, ?_, by rw [i3]⟩
      rw [List.map_cons]; show TrP T F H ((kid1 _).rts _ ++ rtsL _ _) _; rw [e1]; exact .cons h i2
def gT2 (n : Nat) (gs : MGs) : Option (List Rv × Rho) → Option Rho
  | some (rs, ρ) => if rs.length = n then gs rs ρ else none
  | none => none
def gT (n : Nat) (gs : MGs) : MG := fun r ρ => gT2 n gs (unTup ρ r)
theorem sg_tup {ts : List Nat} {m : Nat} {g : TGs} {mg : MGs} (h : SGs T n ts g mg) : SG T n ts (gTup T.K m g) (gT m mg) := fun F H σ τ ρ Φ X v r ρ' Q hn I rr e q => by
  unfold gT at e
  cases u : unTup ρ r with
  | none => rw [u] at e; cases e
  | some z =>
    obtain ⟨rs, ρ1⟩ := z
    rw [u] at e
    have e : (if rs.length = m then mg rs ρ1 else none) = some ρ' := e
    by_cases hm : rs.length = m
    case neg => rw [if_neg hm] at e; cases e
    case pos =>
      rw [if_pos hm] at e
      -- a tuple that stays
      have im : ∀ {F1 : Hp} {l : List Py}, Same F F1 → En T F1 (σ ++ τ) ρ1 Φ X H → Rep T F1 v (.tup l) → rs = l.map (fun k => .im k.unfz) → gTup T.K m g v σ H Q := fun {F1 l} s1 I1 hr er => by
        cases hr with
        | tup hs rl =>
          subst er
          obtain ⟨z1, z2⟩ := unf_ok (H := H) (S := σ ++ τ) rl
          refine ⟨_, _, rfl, sm_t I1.fh hs, by rw [rl.length]; rw [List.length_map] at hm; exact hm, h F1 H σ τ ρ1 Φ X _ _ ρ' Q hn (by rw [z1]; exact I1) z2 (unf_free l) e fun σ2 F2 H2 s2 => q σ2 F2 H2 (s1.trans s2)⟩
      cases r with
      | im d =>
        cases d <;> try cases u
        exact im (Same.refl F) I rr rfl
      | bo i π =>
        have u : unB ρ i π (datR ρ (.bo i π)) = some (rs, ρ1) := u
        cases hd : datR ρ (.bo i π) with
        | none => rw [hd] at u; cases u
        | some d =>
          rw [hd] at u
          cases d <;> try cases u
          obtain ⟨F1, s1, I1, rp⟩ := stay_bo I rr hd
          exact im s1 I1 rp rfl
      | fr d =>
       cases d with
       | tup l =>
        cases u
        obtain ⟨A, r, nd, f⟩ := I.rt
        cases r with
        | cons t r =>
          cases t with
          | leaf hr i =>
            have er : (l.map kid1) = l.map (fun k => .im k.unfz) := List.map_congr_left fun k hk => by
              have : k.imm = true := by
                have go : ∀ {l : List Py}, Py.immL l = true → ∀ k ∈ l, k.imm = true := fun {l} => by
                  induction l with
                  | nil => intro _ k hk; cases hk
                  | cons a l ih =>
                    intro h k hk
                    have h := Bool.and_eq_true_iff.mp (show (a.imm && Py.immL l) = true from h)
                    rcases List.mem_cons.mp hk with z | z
                    · rw [z]; exact h.1
                    · exact ih h.2 k z
                exact go i k hk
              unfold kid1
              rw [if_pos this]
              cases k <;> first | rfl | cases this
            exact im (Same.refl F) (En.dropX (X := [(v, .tup l)]) I) hr er
          | node hp s i tl =>
            rename_i B0 p o A1
            cases s with
            | tup =>
              obtain ⟨z1, C, z2, z3⟩ := kids_ok (S := σ ++ τ) tl
              subst z3
              have I1 : En T F (σ ++ τ) ρ Φ (rtsL _ (l.map kid1) ++ X) H := ⟨I.fh, I.lo, I.len, I.sg, I.ph, I.sl, ⟨_ ++ B0, by rw [List.append_assoc]; exact z2.app r, (List.nodup_cons.mp nd).2, fun a ha => f a (List.mem_cons_of_mem _ ha)⟩, I.io, I.lk, I.lkx⟩
              refine ⟨p, _, rfl, .inl (.inl hp), ?_, h F H σ τ ρ Φ X _ _ ρ' Q hn I1 z1 ?_ e q⟩
              · rw [List.length_map] at hm; rw [← hm]; exact tl.length
              · rw [List.all_map]; exact List.all_eq_true.mpr fun k _ => kid1_free k
       | _ => cases u
def mAsg (g : MG) (m : ME) : MS := fun ρ => (m ρ).then fun r ρ1 => optS (g r ρ1)
theorem ss_asg {ts : List Nat} {te : TE} {m : ME} {g : TG} {mg : MG} (hg : SG T n ts g mg) (h : SE T W n te m) : SS T W n (tAsg te g) (mAsg mg m) := fun F H σ τ ρ Φ D hn I q => by
  refine ss_then h hn I q fun v r ρ1 F1 H1 s1 I1 rr q1 => ?_
  cases e : mg r ρ1 with
  | none => rw [e] at q1; exact q1.elim
  | some ρ2 =>
    rw [e] at q1
    exact hg F1 H1 σ τ ρ1 Φ [] v r ρ2 _ hn (by rw [List.append_nil]; exact I1) rr e fun σ2 F2 H2 s2 h2 _ I2 => q1 σ2 F2 H2 s2 h2 I2
end
end Mr
/-! Dp: an object of a slot's tree is written -/
namespace Mr
open PySem L2

/-- a way that leads to a part of a tree -/
def okA2 (π : List Nat) : Option Sl → Bool
  | some (.ow _ t) => (match t.getP π with
    | some d => !d.imm
    | none => false)
  | _ => false
def okA (ρ : Rho) (j : Nat) (π : List Nat) : Bool := okA2 π ρ[j]?
def keepOk (keep : Nat → Bool) : Option Nat → Bool
  | some n => keep n
  | none => true
def Sl.cutW (ρ : Rho) (i : Nat) (π : List Nat) (keep : Nat → Bool) : Sl → Sl
  | .al j π' => if okA ρ j π' = true then (if j = i then (if keepOk keep (underP π π') = true then .al j π' else .no) else .al j π') else .no
  | s => s
theorem calm_cutW (ρ : Rho) (i : Nat) (π : List Nat) (keep : Nat → Bool) : Calm (Sl.cutW ρ i π keep) := ⟨fun _ _ => rfl, fun s h => by
  cases s with
  | al j π' =>
    show (if okA ρ j π' = true then (if j = i then (if keepOk keep (underP π π') = true then Sl.al j π' else .no) else .al j π') else .no).isOw = false
    split <;> (try split) <;> (try split) <;> rfl
  | ow _ _ => cases h
  | _ => rfl⟩
/-- the slot i's tree t is changed at π to d -/
def Rho.wr (ρ : Rho) (i : Nat) (π : List Nat) (io : Bool) (t : Py) (d : Py) (keep : Nat → Bool) : Rho := (ρ.map (Sl.cutW ρ i π keep)).set i (.ow io (t.putP π d))
section
variable {T : Tb} {W : Wx} {n : Nat} {F F1 F2 F' H H1 H2 H' : Hp} {Φ : Frm} {S : List (Option V)} {ρ ρ1 ρ2 : Rho} {X Y : Rts} {v : V} {d t : Py}
theorem okA_some {j : Nat} {π : List Nat} (h : okA ρ j π = true) : ∃ io t d, ρ[j]? = some (.ow io t) ∧ t.getP π = some d ∧ d.imm = false := by
  unfold okA at h
  cases e : ρ[j]? with
  | none => rw [e] at h; cases h
  | some s =>
    rw [e] at h
    cases s with
    | ow io t =>
      have h : (match t.getP π with | some d => !d.imm | none => false) = true := h
      cases g : t.getP π with
      | none => rw [g] at h; cases h
      | some d => rw [g] at h; exact ⟨io, t, d, rfl, g, by simpa using h⟩
    | _ => cases h
/-- an object is written: its items, and some roots beside, make its new items and other roots -/
theorem En.write {i : Nat} {io : Bool} {π : List Nat} {u : V} {p : Addr} {o o' : HO} {d' : Py} {Z R : Rts} {keep : Nat → Bool} (I : En T F S ρ Φ (Z ++ X) H) (hs : ρ[i]? = some (.ow io t)) (hu : S[i]? = some (some u)) (hg : t.getP π = some d) (m : d.mut = true) (a : At H u π (.ref p)) (hp : H p = some o)
    (sh : Shp T o' d') (ni : d'.imm = false) (kp : ∀ n, keep n = true → (kidsH o')[n]? = (kidsH o)[n]?)
    (tr : ∀ B C, TrL T F H (kidsH o) d.kids B → TrP T F H Z C → ∃ K' R', TrL T F H (kidsH o') d'.kids K' ∧ TrP T F H R R' ∧ Sub (K' ++ R') (B ++ C)) :
    En T F S (ρ.wr i π io t d' keep) Φ (R ++ X) (upd H p o') := by
  have hl : i < ρ.length := (List.getElem?_eq_some_iff.mp hs).1
  have hni := Py.mut_imm m
  have q : Sep T F H Φ ((u, t) :: (Z ++ (X ++ rts S (ρ.set i .no)))) := I.rt.perm (by
    refine (List.Perm.append_left _ (rts_take (s := .no) rfl hs hu)).trans ?_
    refine List.perm_middle.trans ?_
    rw [List.append_assoc])
  obtain ⟨A0, r, nd, f⟩ := q
  cases r with
  | cons ht r =>
    rename_i A E0
    obtain ⟨C, E, e0, rZ, rE⟩ := r.split
    subst e0
    obtain ⟨u', B, pre, post, e1, t2, a2, put⟩ := ht.focus hg (.inr hni)
    cases a.one a2
    obtain ⟨p', o2, K, e2, e3, hp', s2, rK⟩ := t2.mut m
    cases e2
    rw [hp] at hp'
    cases hp'
    subst e3
    subst e1
    obtain ⟨K', R', rK', rR, su⟩ := tr K C rK rZ
    -- places
    have perm0 : (pre ++ (p :: K ++ post) ++ (C ++ E)).Perm (p :: (pre ++ post ++ E ++ (K ++ C))) := by
      have h1 : (pre ++ (p :: K ++ post)).Perm (p :: (pre ++ post ++ K)) := by
        rw [List.cons_append]
        refine List.perm_middle.trans (List.Perm.cons p ?_)
        rw [List.append_assoc]
        exact List.Perm.append_left pre List.perm_append_comm
      refine (List.Perm.append_right _ h1).trans (List.Perm.cons p ?_)
      show (pre ++ post ++ K ++ (C ++ E)).Perm _
      have h2 : (pre ++ post ++ K ++ (C ++ E)).Perm (pre ++ post ++ (E ++ (K ++ C))) := by
        rw [List.append_assoc (pre ++ post)]
        refine List.Perm.append_left _ ?_
        rw [← List.append_assoc K]
        exact List.perm_append_comm
      rw [← List.append_assoc (pre ++ post)] at h2
      exact h2
    have nd1 := perm0.nodup_iff.mp nd
    have nd2 := List.nodup_cons.mp nd1
    have pn : ∀ a ∈ pre ++ post ++ E ++ (K ++ C), a ≠ p := fun a ha z => nd2.1 (z ▸ ha)
    have su2 : Sub (pre ++ post ++ E ++ (K' ++ R')) (pre ++ post ++ E ++ (K ++ C)) := (Sub.refl _).app su
    have pn2 : ∀ a ∈ pre ++ post ++ E ++ (K' ++ R'), a ≠ p := fun a ha => pn a (su2.mem ha)
    have hF : ∀ a ∈ p :: (pre ++ post ++ E ++ (K ++ C)), F a = none ∧ Φ a = none := fun a ha => f a (perm0.mem_iff.mpr ha)
    have fp := hF p List.mem_cons_self
    -- the new tree
    have node : Tr T F (upd H p o') (.ref p) d' (p :: K') := .node upd_same sh ni (rK'.keep (Same.refl F) fun a ha => upd_ne (pn2 a (by simp [ha])))
    have nt : Tr T F (upd H p o') u (t.putP π d') (pre ++ ((p :: K') ++ post)) := (put (Same.refl F) (fun a ha => upd_ne (pn2 a (by
      rcases List.mem_append.mp ha with z | z <;> simp [z]))) ni node).1
    have perm1 : ((pre ++ ((p :: K') ++ post)) ++ (R' ++ E)).Perm (p :: (pre ++ post ++ E ++ (K' ++ R'))) := by
      have h1 : (pre ++ ((p :: K') ++ post)).Perm (p :: (pre ++ post ++ K')) := by
        rw [List.cons_append]
        refine List.perm_middle.trans (List.Perm.cons p ?_)
        rw [List.append_assoc]
        exact List.Perm.append_left pre List.perm_append_comm
      refine (List.Perm.append_right _ h1).trans (List.Perm.cons p ?_)
      show (pre ++ post ++ K' ++ (R' ++ E)).Perm _
      have h2 : (pre ++ post ++ K' ++ (R' ++ E)).Perm (pre ++ post ++ (E ++ (K' ++ R'))) := by
        rw [List.append_assoc (pre ++ post)]
        refine List.Perm.append_left _ ?_
        rw [← List.append_assoc K']
        exact List.perm_append_comm
      rw [← List.append_assoc (pre ++ post)] at h2
      exact h2
    have nd3 : (p :: (pre ++ post ++ E ++ (K' ++ R'))).Nodup := List.nodup_cons.mpr ⟨fun z => pn2 p z rfl, su2.nodup nd2.2⟩
    have sep : Sep T F (upd H p o') Φ ((u, t.putP π d') :: (R ++ (X ++ rts S (ρ.set i .no)))) := by
      refine ⟨_, .cons nt ((rR.keep (Same.refl F) fun a ha => upd_ne (pn2 a (by simp [ha]))).app (rE.keep (Same.refl F) fun a ha => upd_ne (pn2 a (by simp [ha])))), perm1.nodup_iff.mpr nd3, fun a ha => ?_⟩
      have ha := perm1.mem_iff.mp ha
      rcases List.mem_cons.mp ha with z | z
      · rw [z]; exact fp
      · exact hF a (List.mem_cons_of_mem _ (su2.mem z))
    refine ⟨fun x y e => ?_, I.lo, ?_, I.sg, fun x y e => ?_, fun k s e => ?_, ?_, fun k w e => ?_, fun x y e => ?_, I.lkx⟩
    · have z : x ≠ p := fun z => by rw [z, fp.1] at e; cases e
      rw [upd_ne z]; exact I.fh x y e
    · unfold Rho.wr; rw [List.length_set, List.length_map]; exact I.len
    · have z : x ≠ p := fun z => by rw [z, fp.2] at e; cases e
      rw [upd_ne z]; exact I.ph x y e
    · unfold Rho.wr at e
      by_cases hk : i = k
      · subst hk; rw [List.getElem?_set_self (by rw [List.length_map]; exact hl)] at e; cases e; exact ⟨u, hu⟩
      · rw [List.getElem?_set_ne hk, List.getElem?_map] at e
        cases h0 : ρ[k]? with
        | none => rw [h0] at e; cases e
        | some s0 =>
          rw [h0] at e
          have e := Option.some.inj e
          subst e
          have ok := I.sl k s0 h0
          cases s0 with
          | no => trivial
          | im io d => exact ok
          | ow io d => exact ok
          | al j π' =>
            obtain ⟨w, x, q1, q2, q3⟩ := ok
            show SlOk T F (upd H p o') S k (if okA ρ j π' = true then (if j = i then (if keepOk keep (underP π π') = true then .al j π' else .no) else .al j π') else .no)
            by_cases hok : okA ρ j π' = true
            · rw [if_pos hok]
              obtain ⟨ioj, tj, dj, g1, g2, g3⟩ := okA_some hok
              by_cases hj : j = i
              · rw [if_pos hj]
                subst hj
                rw [hs] at g1
                cases g1
                rw [hu] at q2
                cases q2
                by_cases hkp : keepOk keep (underP π π') = true
                · rw [if_pos hkp]
                  refine ⟨w, u, q1, hu, ht.changed hp (List.nodup_append.mp nd).1 hg m a g2 (.inr g3) (fun l hl => kp l ?_) q3⟩
                  rw [hl] at hkp
                  exact hkp
                · rw [if_neg hkp]; trivial
              · rw [if_neg hj]
                refine ⟨w, x, q1, q2, ?_⟩
                have g1' : (ρ.set i .no)[j]? = some (.ow ioj tj) := by rw [List.getElem?_set_ne (Ne.symm hj)]; exact g1
                have pm := (List.Perm.append_left X (rts_take (s := .no) rfl g1' q2)).trans List.perm_middle
                obtain ⟨E', r', pE⟩ := rE.perm pm
                cases r' with
                | cons tj' r' =>
                  refine tj'.off g2 (.inr g3) (fun z => ?_) q3
                  have : p ∈ E := pE.mem_iff.mpr (List.mem_append_left _ z)
                  exact pn p (by simp [this]) rfl
            · rw [if_neg hok]; trivial
    · have hl' : i < (ρ.map (Sl.cutW ρ i π keep)).length := by rw [List.length_map]; exact hl
      have z : rts S ((ρ.map (Sl.cutW ρ i π keep)).set i .no) = rts S (ρ.set i .no) := by
        have z1 : (ρ.map (Sl.cutW ρ i π keep)).set i .no = (ρ.set i .no).map (Sl.cutW ρ i π keep) := by rw [List.map_set]; rfl
        rw [z1, rts_map (calm_cutW ρ i π keep)]
      have pm := rts_put (s' := .no) rfl (v := u) (io := io) (t := t.putP π d') (σ := S) (ρ := (ρ.map (Sl.cutW ρ i π keep)).set i .no) (i := i) (List.getElem?_set_self hl') hu
      rw [List.set_set, z] at pm
      unfold Rho.wr
      refine sep.perm ?_
      refine List.Perm.trans ?_ (List.Perm.append_left (R ++ X) pm.symm)
      rw [List.append_assoc]
      refine List.Perm.trans ?_ (List.Perm.append_left R List.perm_middle.symm)
      exact List.perm_middle.symm
    · obtain ⟨z1, s, z2, z3⟩ := I.io k w e
      unfold Rho.wr
      by_cases hk : i = k
      · subst hk
        rw [hs] at z2
        cases z2
        exact ⟨z1, _, List.getElem?_set_self (by rw [List.length_map]; exact hl), z3⟩
      · refine ⟨z1, s, ?_, z3⟩
        rw [List.getElem?_set_ne hk, List.getElem?_map, z2]
        cases s with
        | al _ _ => cases z3
        | _ => rfl
    · have z : x ≠ p := fun z => by rw [z, fp.1] at e; cases e
      rw [upd_ne z]; exact I.lk x y e
end
end Mr
/-! Dp: a def: its mirror, its promise -/
namespace Mr
open PySem L2

inductive DR where
  | ok (r : Rv) (os : List Sl)
  | ex (c : Nat) (w : Py) (os : List Sl)
  | st
/-- slots, which arguments the asker keeps, the body -/
structure DM where
  n : Nat
  ios : List Bool
  body : MS
def outS (a s : Sl) : Sl := if a.isIo = true then s else .no
def outsOf : List Sl → Rho → List Sl
  | [], _ => []
  | a :: as, s :: ρ => outS a s :: outsOf as ρ
  | _ :: as, [] => .no :: outsOf as []
def isIoAt : Option Sl → Bool
  | some s => s.isIo
  | none => false
def retP (f : Py → DR) : Option Py → DR
  | some d => if d.mut = true then f d else .st
  | none => .st
def retB (as : List Sl) (ρ : Rho) (i : Nat) (π : List Nat) : Option Sl → DR
  | some (.im _ t) => if π = [] then .ok (.im t) (outsOf as ρ) else .st
  | some (.ow true t) => if isIoAt as[i]? = true then retP (fun _ => .ok (.bo i π) (outsOf as ρ)) (t.getP π) else .st
  | some (.ow false t) => retP (fun d => .ok (.fr d) (outsOf as ρ)) (t.getP π)
  | _ => .st
def retR (as : List Sl) (ρ : Rho) : Rv → DR
  | .im d => .ok (.im d) (outsOf as ρ)
  | .fr d => .ok (.fr d) (outsOf as ρ)
  | .bo i π => retB as ρ i π ρ[i]?
def endR (as : List Sl) : SR → DR
  | .nx ρ => .ok (.im .non) (outsOf as ρ)
  | .rt r ρ => retR as ρ r
  | .ex c w ρ => .ex c w (outsOf as ρ)
  | _ => .st
def DM.run (m : DM) (as : List Sl) : DR := endR as (m.body (as ++ List.replicate (m.n - as.length) .no))
def DPost (T : Tb) (F : Hp) (vs : List V) (Φ : Frm) (Q : VK) (E : XK) : DR → Prop
  | .ok r os => ∀ v F' H', Same F F' → En T F' (vs.map some) os Φ (r.rts v) H' → RR T F' H' (vs.map some) v r → Q v H'
  | .ex c w os => ∀ d v F' H', Same F F' → En T F' (vs.map some) os Φ [] H' → Rep T F' v w → H' d = some (.xd [("what", v)]) → F' d = none → Φ d = none → E (.ref (T.cls c)) (some d) H'
  | .st => False
def argFit (io : Bool) : Sl → Bool
  | .im b _ => b == io
  | .ow b _ => b == io
  | _ => false
def argsFit : List Bool → List Sl → Bool
  | [], [] => true
  | io :: ios, s :: as => argFit io s && argsFit ios as
  | _, _ => false
def spM (T : Tb) (m : DM) : Sp := fun vs H Q E => vs.length = m.ios.length ∧ ∃ (F : Hp) (as : List Sl) (Φ : Frm), argsFit m.ios as = true ∧ En T F (vs.map some) as Φ [] H ∧ (∀ (k : Nat) s, as[k]? = some s → s.isIo = true → Φ.io k = vs[k]?) ∧ DPost T F vs Φ Q E (m.run as)
section
variable {T : Tb} {W : Wx} {n : Nat} {F F1 F2 F' H H1 H2 H' : Hp} {Φ : Frm} {S : List (Option V)} {ρ ρ1 ρ2 : Rho} {X Y : Rts} {v : V} {d t : Py} {Q : VK}
theorem argsFit_len : ∀ {ios : List Bool} {as : List Sl}, argsFit ios as = true → ios.length = as.length
  | [], [], _ => rfl
  | _ :: _, _ :: _, h => by rw [List.length_cons, List.length_cons, argsFit_len (Bool.and_eq_true_iff.mp h).2]
  | [], _ :: _, h => by cases h
  | _ :: _, [], h => by cases h
theorem outs_len : ∀ {as : List Sl} {ρ : Rho}, (outsOf as ρ).length = as.length
  | [], _ => rfl
  | _ :: as, _ :: ρ => by show (outsOf as ρ).length + 1 = _; rw [outs_len]; rfl
  | _ :: as, [] => by show (outsOf as []).length + 1 = _; rw [outs_len]; rfl
theorem outs_at : ∀ {as : List Sl} {ρ : Rho} {k : Nat} {a s : Sl}, as[k]? = some a → ρ[k]? = some s → (outsOf as ρ)[k]? = some (outS a s)
  | [], _, _, _, _, h, _ => by cases h
  | _ :: _, [], _, _, _, _, h => by cases h
  | a :: as, s :: ρ, 0, _, _, h, h2 => by cases h; cases h2; rfl
  | a :: as, s :: ρ, k + 1, _, _, h, h2 => outs_at (as := as) (ρ := ρ) (k := k) h h2
theorem outs_set : ∀ {as : List Sl} {ρ : Rho} {i : Nat} {s : Sl}, isIoAt as[i]? = false → outsOf as (ρ.set i s) = outsOf as ρ
  | [], _, _, _, _ => rfl
  | _ :: _, [], _, _, _ => rfl
  | a :: as, b :: ρ, 0, s, h => by
    have h : a.isIo = false := h
    show outS a s :: _ = outS a b :: _
    unfold outS
    rw [h]; rfl
  | a :: as, b :: ρ, i + 1, s, h => by
    show outS a b :: outsOf as (ρ.set i s) = outS a b :: outsOf as ρ
    rw [outs_set (as := as) (ρ := ρ) (i := i) h]
theorem outs_rts : ∀ {as : List Sl} {vs : List V} {S : List (Option V)} {ρ : Rho}, as.length = vs.length → as.length ≤ ρ.length → S.length = ρ.length → (∀ (k : Nat) s, as[k]? = some s → s.isIo = true → S[k]? = (vs.map some)[k]?) → ∃ R, (rts (vs.map some) (outsOf as ρ) ++ R).Perm (rts S ρ)
  | [], vs, S, ρ, _, _, _, _ => ⟨rts S ρ, by cases vs <;> exact List.Perm.refl _⟩
  | a :: as, [], _, _, h, _, _, _ => by cases h
  | a :: as, v :: vs, [], ρ, _, h2, h3, _ => by rw [← h3] at h2; cases h2
  | a :: as, v :: vs, _ :: _, [], _, h2, _, _ => by cases h2
  | a :: as, v :: vs, x :: S, s :: ρ, h1, h2, h3, h4 => by
    obtain ⟨R, p⟩ := outs_rts (as := as) (vs := vs) (S := S) (ρ := ρ) (Nat.succ.inj h1) (Nat.le_of_succ_le_succ h2) (Nat.succ.inj h3) fun k s e => h4 (k + 1) s e
    show ∃ R, (rts (some v :: vs.map some) (outS a s :: outsOf as ρ) ++ R).Perm (rts (x :: S) (s :: ρ))
    cases hw : s.isOw with
    | false =>
      rw [rts_no hw, rts_no (by unfold outS; split <;> first | exact hw | rfl)]
      exact ⟨R, p⟩
    | true =>
      cases s <;> try cases hw
      rename_i io t
      unfold outS
      by_cases ha : a.isIo = true
      · rw [if_pos ha]
        have e : some x = some (some v) := h4 0 a rfl ha
        cases e
        rw [rts_ow, rts_ow]
        exact ⟨R, p.cons _⟩
      · rw [if_neg ha, rts_no (s := .no) rfl]
        cases x with
        | none => rw [rts_none]; exact ⟨R, p⟩
        | some w => rw [rts_ow]; exact ⟨(w, t) :: R, List.perm_middle.trans (p.cons _)⟩
/-- at a def's end -/
theorem outs_en [hT : NoSg T] {vs : List V} {as : List Sl} (I : En T F S ρ Φ X H) (hl : as.length = vs.length) (hn : as.length ≤ ρ.length) (hio : ∀ (k : Nat) s, as[k]? = some s → s.isIo = true → Φ.io k = vs[k]?) (hio2 : ∀ (k : Nat) v, Φ.io k = some v → isIoAt as[k]? = true) : En T F (vs.map some) (outsOf as ρ) Φ X H := by
  have key : ∀ (k : Nat) s, as[k]? = some s → s.isIo = true → ∃ v, vs[k]? = some v ∧ S[k]? = some (some v) ∧ ∃ s', ρ[k]? = some s' ∧ s'.isIo = true := fun k s e h => by
    have q := hio k s e h
    have kl : k < vs.length := by rw [← hl]; exact (List.getElem?_eq_some_iff.mp e).1
    obtain ⟨v, hv⟩ : ∃ v, vs[k]? = some v := ⟨_, List.getElem?_eq_getElem kl⟩
    rw [hv] at q
    obtain ⟨z1, z2⟩ := I.io k v q
    exact ⟨v, hv, z1, z2⟩
  refine ⟨I.fh, I.lo, by rw [List.length_map, outs_len, hl], fun s e => by (rw [hT.h] at e; cases e), I.ph, fun k s e => ?_, ?_, fun k v e => ?_, I.lk, I.lkx⟩
  · have kl : k < as.length := by have := (List.getElem?_eq_some_iff.mp e).1; rw [outs_len] at this; exact this
    obtain ⟨a, ha⟩ : ∃ a, as[k]? = some a := ⟨_, List.getElem?_eq_getElem kl⟩
    obtain ⟨s0, hs0⟩ : ∃ s0, ρ[k]? = some s0 := ⟨_, List.getElem?_eq_getElem (by omega)⟩
    rw [outs_at ha hs0] at e
    have e := Option.some.inj e
    subst e
    unfold outS
    by_cases hi : a.isIo = true
    · rw [if_pos hi]
      obtain ⟨v, h1, h2, s', h3, h4⟩ := key k a ha hi
      rw [hs0] at h3
      cases h3
      have hv : (vs.map some)[k]? = some (some v) := by rw [List.getElem?_map, h1]; rfl
      have ok := I.sl k s0 hs0
      cases s0 with
      | no => trivial
      | im io d =>
        obtain ⟨w, q1, q2⟩ := ok
        rw [h2] at q1
        cases q1
        exact ⟨v, hv, q2⟩
      | ow io d => exact ⟨v, hv⟩
      | al _ _ => cases h4
    · rw [if_neg hi]; trivial
  · obtain ⟨R, p⟩ := outs_rts hl hn I.len fun k s e h => by
      obtain ⟨v, h1, h2, _⟩ := key k s e h
      rw [h2, List.getElem?_map, h1]; rfl
    have q := I.rt.perm (List.Perm.append_left X p.symm)
    rw [← List.append_assoc] at q
    exact q.left
  · have hi := hio2 k v e
    cases ha : as[k]? with
    | none => rw [ha] at hi; cases hi
    | some a =>
      rw [ha] at hi
      obtain ⟨w, h1, h2, s', h3, h4⟩ := key k a ha hi
      have q := hio k a ha hi
      rw [e, h1] at q
      cases q
      refine ⟨by rw [List.getElem?_map, h1]; rfl, s', ?_, h4⟩
      rw [outs_at ha h3]
      unfold outS
      rw [if_pos (show a.isIo = true from hi)]
/-- the slots of a def at its start -/
theorem En.pad [hT : NoSg T] (I : En T F S ρ Φ X H) : ∀ k : Nat, En T F (S ++ List.replicate k none) (ρ ++ List.replicate k .no) Φ X H := fun k => by
  have e : rts (List.replicate k none) (List.replicate k Sl.no) = [] := by
    induction k with
    | zero => rfl
    | succ k ih => rw [List.replicate_succ, List.replicate_succ, rts_none, ih]
  refine ⟨I.fh, I.lo, by rw [List.length_append, List.length_append, I.len, List.length_replicate, List.length_replicate], fun s e => by (rw [hT.h] at e; cases e), I.ph, fun j s e => ?_, by rw [rts_app I.len, e, List.append_nil]; exact I.rt, fun j v e => ?_, I.lk, I.lkx⟩
  · by_cases hj : j < ρ.length
    · rw [List.getElem?_append_left hj] at e
      exact (I.sl j s e).app
    · rw [List.getElem?_append_right (by omega), List.getElem?_replicate] at e
      split at e
      · cases e; trivial
      · cases e
  · obtain ⟨z1, s, z2, z3⟩ := I.io j v e
    exact ⟨get_app z1, s, get_app z2, z3⟩
theorem argFit_io {io : Bool} {s : Sl} (h : argFit io s = true) : s.isIo = io := by
  cases s with
  | im b d => exact eq_of_beq h
  | ow b d => exact eq_of_beq h
  | _ => cases h
/-- a slot's tree, its part taken out -/
theorem En.extract {i : Nat} {π : List Nat} {u : V} (I : En T F S ρ Φ X H) (hs : ρ[i]? = some (.ow false t)) (hu : S[i]? = some (some u)) (hg : t.getP π = some d) (hd : d.imm = false) (a : At H u π v) : En T F S (ρ.set i .no) Φ ((v, d) :: X) H := by
  have hl : i < ρ.length := (List.getElem?_eq_some_iff.mp hs).1
  have q : Sep T F H Φ ((u, t) :: (X ++ rts S (ρ.set i .no))) := I.rt.perm ((List.Perm.append_left X (rts_take (s := .no) rfl hs hu)).trans List.perm_middle)
  obtain ⟨A, r, nd, f⟩ := q
  cases r with
  | cons h r =>
    rename_i A' C'
    obtain ⟨u', B, pre, post, e3, t2, a2, put⟩ := h.focus hg (.inr hd)
    cases a.one a2
    have sub : Sub (B ++ C') (A' ++ C') := (show Sub B A' from ⟨pre ++ post, by
      rw [e3, ← List.append_assoc, ← List.append_assoc]
      exact List.Perm.append_right post List.perm_append_comm⟩).app (Sub.refl C')
    refine ⟨I.fh, I.lo, by rw [List.length_set]; exact I.len, I.sg, I.ph, fun k s e => ?_, ⟨B ++ C', .cons t2 r, sub.nodup nd, fun x hx => f x (sub.mem hx)⟩, fun k w e => ?_, I.lk, I.lkx⟩
    · by_cases hk : i = k
      · subst hk; rw [List.getElem?_set_self hl] at e; cases e; trivial
      · rw [List.getElem?_set_ne hk] at e; exact I.sl k s e
    · obtain ⟨z1, s, z2, z3⟩ := I.io k w e
      have hk : i ≠ k := fun z => by subst z; rw [hs] at z2; cases z2; cases z3
      exact ⟨z1, s, by rw [List.getElem?_set_ne hk]; exact z2, z3⟩
theorem body_ok [hT : NoSg T] {ts : TS} {m : DM} {N : List Str} {vs : List V} {H : Hp} {E : XK} (hn : m.n = N.length) (hk : m.ios.length ≤ N.length) (h : SS T (fun c d _ H => E c d H) N.length ts m.body) (sp : spM T m vs H Q E) : ts { nx := fun _ H' => Q .non H', rt := Q } (start N vs) H := by
  obtain ⟨hl, F, as, Φ0, fit, I0, io0, post⟩ := sp
  have la := argsFit_len fit
  have lv : as.length = vs.length := by rw [hl, la]
  -- just the kept slots of the arguments are told
  have hio2 : ∀ (k : Nat) v, Φ0.io k = some v → isIoAt as[k]? = true := fun k v e => by
    obtain ⟨_, s, z2, z3⟩ := I0.io k v e
    rw [z2]; exact z3
  have e1 : start N vs = vs.map some ++ List.replicate (m.n - as.length) none := by
    unfold L2.start; rw [hn, lv]
  have I1 : En T F (start N vs ++ []) (as ++ List.replicate (m.n - as.length) .no) Φ0 [] H := by
    rw [List.append_nil, e1]; exact I0.pad _
  have ls : (start N vs).length = N.length := by
    rw [e1, List.length_append, List.length_map, List.length_replicate]; omega
  refine h F H (start N vs) [] _ Φ0 _ ls I1 ?_
  unfold DM.run at post
  have lr : ∀ {σ' : L2.St} {ρ' : Rho} {F' H' : Hp} {X : Rts}, σ'.length = N.length → En T F' (σ' ++ []) ρ' Φ0 X H' → En T F' (vs.map some) (outsOf as ρ') Φ0 X H' ∧ as.length ≤ ρ'.length := fun {σ' ρ' F' H' X} l I => by
    have : as.length ≤ ρ'.length := by rw [← I.len, List.append_nil, l]; omega
    exact ⟨outs_en I lv this io0 hio2, this⟩
  have sv : ∀ {σ' : L2.St} {ρ' : Rho} {F' H' : Hp} {X : Rts} {k : Nat}, En T F' (σ' ++ []) ρ' Φ0 X H' → isIoAt as[k]? = true → ∃ w, (vs.map some)[k]? = some (some w) ∧ (σ' ++ [])[k]? = some (some w) ∧ ∃ s', ρ'[k]? = some s' ∧ s'.isIo = true := fun {σ' ρ' F' H' X k} I hi => by
    cases ha : as[k]? with
    | none => rw [ha] at hi; cases hi
    | some a =>
      rw [ha] at hi
      have q := io0 k a ha hi
      have kl : k < vs.length := by rw [← lv]; exact (List.getElem?_eq_some_iff.mp ha).1
      obtain ⟨w, hw⟩ : ∃ w, vs[k]? = some w := ⟨_, List.getElem?_eq_getElem kl⟩
      rw [hw] at q
      obtain ⟨z1, z2⟩ := I.io k w q
      exact ⟨w, by rw [List.getElem?_map, hw]; rfl, z1, z2⟩
  cases e : m.body (as ++ List.replicate (m.n - as.length) .no) with
  | st => rw [e] at post; exact post.elim
  | bk ρ' => rw [e] at post; exact post.elim
  | ct ρ' => rw [e] at post; exact post.elim
  | nx ρ' =>
    rw [e] at post
    exact fun σ' F' H' s1 l1 I1 => post .non F' H' s1 (lr l1 I1).1 .non
  | ex c w ρ' =>
    rw [e] at post
    exact fun d v σ' F' H' s1 l1 I1 => post d v F' H' s1 (lr l1 I1).1
  | rt r ρ' =>
    rw [e] at post
    have post : DPost T F vs Φ0 Q E (retR as ρ' r) := post
    intro v σ' F' H' s1 l1 I1 rr
    cases r with
    | im d => exact post v F' H' s1 (lr l1 I1).1 rr
    | fr d => exact post v F' H' s1 (lr l1 I1).1 trivial
    | bo i π =>
      have post : DPost T F vs Φ0 Q E (retB as ρ' i π ρ'[i]?) := post
      obtain ⟨u, hu, a⟩ := rr
      cases hs : ρ'[i]? with
      | none => rw [hs] at post; exact post.elim
      | some s =>
        rw [hs] at post
        cases s with
        | no => exact post.elim
        | al _ _ => exact post.elim
        | im io t =>
          have post : DPost T F vs Φ0 Q E (if π = [] then .ok (.im t) (outsOf as ρ') else .st) := post
          by_cases hp : π = []
          · rw [if_pos hp] at post
            subst hp
            cases a
            obtain ⟨w, q1, q2⟩ := I1.sl i _ hs
            rw [hu] at q1
            cases q1
            exact post _ F' H' s1 (lr l1 I1).1 q2
          · rw [if_neg hp] at post; exact post.elim
        | ow io t =>
          cases io with
          | true =>
            have post : DPost T F vs Φ0 Q E (if isIoAt as[i]? = true then retP (fun _ => .ok (.bo i π) (outsOf as ρ')) (t.getP π) else .st) := post
            by_cases hi : isIoAt as[i]? = true
            · rw [if_pos hi] at post
              cases hg : t.getP π with
              | none => rw [hg] at post; exact post.elim
              | some d =>
                rw [hg] at post
                have post : DPost T F vs Φ0 Q E (if d.mut = true then .ok (.bo i π) (outsOf as ρ') else .st) := post
                by_cases hm : d.mut = true
                · rw [if_pos hm] at post
                  obtain ⟨w, z1, z2, _⟩ := sv I1 hi
                  rw [hu] at z2
                  cases z2
                  exact post v F' H' s1 (lr l1 I1).1 ⟨_, z1, a⟩
                · rw [if_neg hm] at post; exact post.elim
            · rw [if_neg hi] at post; exact post.elim
          | false =>
            have post : DPost T F vs Φ0 Q E (retP (fun d => .ok (.fr d) (outsOf as ρ')) (t.getP π)) := post
            cases hg : t.getP π with
            | none => rw [hg] at post; exact post.elim
            | some d =>
              rw [hg] at post
              have post : DPost T F vs Φ0 Q E (if d.mut = true then .ok (.fr d) (outsOf as ρ') else .st) := post
              by_cases hm : d.mut = true
              · rw [if_pos hm] at post
                have I2 := I1.extract hs hu hg (Py.mut_imm hm) a
                have hi : isIoAt as[i]? = false := by
                  cases hc : isIoAt as[i]? with
                  | false => rfl
                  | true =>
                    obtain ⟨w, _, _, s', z3, z4⟩ := sv I1 hc
                    rw [hs] at z3
                    cases z3
                    cases z4
                have I3 := (lr l1 I2).1
                rw [outs_set hi] at I3
                exact post v F' H' s1 I3 trivial
              · rw [if_neg hm] at post; exact post.elim
end
end Mr
/-! Dp: a call -/
namespace Mr
open PySem L2

/-! ### arguments: what the asker does not keep is put to what stays -/
def argB (ρ : Rho) (i : Nat) (π : List Nat) : Option Py → Option (Rv × Rho)
  | some d => if d.imm = true then some (.im d, ρ) else some (.im d.plain, ρ.stayA i π)
  | none => none
def argC (ρ : Rho) : Bool → Rv → Option (Rv × Rho)
  | false, .bo i π => argB ρ i π (datR ρ (.bo i π))
  | _, r => some (r, ρ)
def argC2 (r : Rv) : Option (List Rv × Rho) → Option (List Rv × Rho)
  | some (rs, ρ) => some (r :: rs, ρ)
  | none => none
def argC1 (f : Rho → Option (List Rv × Rho)) : Option (Rv × Rho) → Option (List Rv × Rho)
  | some (r, ρ) => argC2 r (f ρ)
  | none => none
def argsC : List Bool → List Rv → Rho → Option (List Rv × Rho)
  | [], [], ρ => some ([], ρ)
  | io :: ios, r :: rs, ρ => argC1 (argsC ios rs) (argC ρ io r)
  | _, _, _ => none
/-! ### what is lent -/
abbrev Ln := Option (Nat × List Nat)
def lendP (i : Nat) (π : List Nat) : Option Py → Option (Sl × Ln)
  | some d => if d.mut = true then some (.ow true d, some (i, π)) else none
  | none => none
def lendB (i : Nat) (π : List Nat) : Option Sl → Option (Sl × Ln)
  | some (.ow _ t) => lendP i π (t.getP π)
  | some (.im _ t) => if π = [] then some (.im true t, none) else none
  | _ => none
def lendOf (ρ : Rho) : Bool → Rv → Option (Sl × Ln)
  | io, .im d => some (.im io d, none)
  | io, .fr d => some (.ow io d, none)
  | true, .bo i π => lendB i π ρ[i]?
  | false, .bo _ _ => none
def lendC : Option (Sl × Ln) → Option (List (Sl × Ln)) → Option (List (Sl × Ln))
  | some x, some l => some (x :: l)
  | _, _ => none
def lendsOf (ρ : Rho) : List Bool → List Rv → Option (List (Sl × Ln))
  | [], [] => some []
  | io :: ios, r :: rs => lendC (lendOf ρ io r) (lendsOf ρ ios rs)
  | _, _ => none
def lnIx : List (Sl × Ln) → List (Nat × List Nat)
  | [] => []
  | (_, some x) :: l => x :: lnIx l
  | (_, none) :: l => lnIx l
def lookIx (j : Nat) : List (Nat × List Nat) → Option (List Nat)
  | [] => none
  | (i, π) :: l => if i = j then some π else lookIx j l
def Sl.cutC (ρ : Rho) (l : List (Nat × List Nat)) : Sl → Sl
  | .al j π => if okA ρ j π = true then (match lookIx j l with
    | some π' => if π = π' then .al j π else .no
    | none => .al j π) else .no
  | s => s
def back2 (i : Nat) (π : List Nat) (ρ : Rho) (d : Py) : Option Sl → Option Rho
  | some (.ow io t) => if d.imm = true then none else some (ρ.set i (.ow io (t.putP π d)))
  | _ => none
def back1 (i : Nat) (π : List Nat) (ρ : Rho) : Sl → Option Rho
  | .ow _ d => back2 i π ρ d ρ[i]?
  | _ => none
def backO (f : Rho → Option Rho) : Option Rho → Option Rho
  | some ρ => f ρ
  | none => none
def backs : List (Sl × Ln) → List Sl → Rho → Option Rho
  | [], _, ρ => some ρ
  | (_, none) :: l, _ :: os, ρ => backs l os ρ
  | (_, some (i, π)) :: l, o :: os, ρ => backO (backs l os) (back1 i π ρ o)
  | _ :: _, [], _ => none
def resL (π : List Nat) (ρ : Rho) : Option (Sl × Ln) → ER
  | some (_, some (i, π')) => .ok (.bo i (π' ++ π)) ρ
  | _ => .st
def resR (L : List (Sl × Ln)) (ρ : Rho) : Rv → ER
  | .im d => .ok (.im d) ρ
  | .fr d => .ok (.fr d) ρ
  | .bo k π => resL π ρ L[k]?
def resK (L : List (Sl × Ln)) (r : Rv) : Option Rho → ER
  | some ρ => resR L ρ r
  | none => .st
def resX (c : Nat) (w : Py) : Option Rho → ER
  | some ρ => .ex c w ρ
  | none => .st
def callE (L : List (Sl × Ln)) (ρ : Rho) : DR → ER
  | .ok r os => resK L r (backs L os (ρ.map (Sl.cutC ρ (lnIx L))))
  | .ex c w os => resX c w (backs L os (ρ.map (Sl.cutC ρ (lnIx L))))
  | .st => .st
def call2 (m : DM) (ρ : Rho) : Option (List (Sl × Ln)) → ER
  | some L => if ((lnIx L).map (·.1)).Nodup then callE L ρ (m.run (L.map (·.1))) else .st
  | none => .st
def call1 (m : DM) : Option (List Rv × Rho) → ER
  | some (rs, ρ) => call2 m ρ (lendsOf ρ m.ios rs)
  | none => .st
def callR (m : DM) (ρ : Rho) (rs : List Rv) : ER := call1 m (argsC m.ios rs ρ)

section
variable {T : Tb} {W : Wx} {n : Nat} {F F1 F2 F' H H1 H2 H' : Hp} {Φ : Frm} {S : List (Option V)} {ρ ρ1 ρ2 : Rho} {X Y : Rts} {v : V} {d t : Py} {Q : VK}
theorem argC_ok {io : Bool} {r r' : Rv} (I : En T F S ρ Φ (r.rts v ++ X) H) (h : RR T F H S v r) (e : argC ρ io r = some (r', ρ1)) : ∃ F', Same F F' ∧ En T F' S ρ1 Φ (r'.rts v ++ X) H ∧ RR T F' H S v r' := by
  have same : argC ρ io r = some (r, ρ) → ∃ F', Same F F' ∧ En T F' S ρ1 Φ (r'.rts v ++ X) H ∧ RR T F' H S v r' := fun z => by
    rw [z] at e
    cases e
    exact ⟨F, Same.refl F, I, h⟩
  cases r with
  | im d => exact same (by cases io <;> rfl)
  | fr d => exact same (by cases io <;> rfl)
  | bo i π =>
    cases io with
    | true => exact same rfl
    | false =>
      have e : argB ρ i π (datR ρ (.bo i π)) = some (r', ρ1) := e
      cases q : datR ρ (.bo i π) with
      | none => rw [q] at e; cases e
      | some d =>
        rw [q] at e
        have e : (if d.imm = true then some (.im d, ρ) else some (.im d.plain, ρ.stayA i π)) = some (r', ρ1) := e
        by_cases z : d.imm = true
        · rw [if_pos z] at e
          cases e
          exact ⟨F, Same.refl F, I, imm_bo I h q z⟩
        · rw [if_neg z] at e
          cases e
          obtain ⟨F', ex, I', rp⟩ := stay_bo I h q
          exact ⟨F', ex, I', rp.plain⟩
theorem argsC_ok : ∀ {ios : List Bool} {rs rs' : List Rv} {vs : List V} {ρ ρ1 : Rho} {F : Hp} {X : Rts}, En T F S ρ Φ (rtsL vs rs ++ X) H → RRL T F H S vs rs → argsC ios rs ρ = some (rs', ρ1) → ∃ F', Same F F' ∧ En T F' S ρ1 Φ (rtsL vs rs' ++ X) H ∧ RRL T F' H S vs rs'
  | [], [], _, _, _, _, F, X, I, h, e => by cases e; exact ⟨F, Same.refl F, I, h⟩
  | [], _ :: _, _, _, _, _, _, _, _, _, e => by cases e
  | _ :: _, [], _, _, _, _, _, _, _, _, e => by cases e
  | io :: ios, r :: rs, _, _, ρ, ρ1, F, X, I, h, e => by
    cases h with
    | cons h t =>
      rename_i v vs
      have e : argC1 (argsC ios rs) (argC ρ io r) = some (_, ρ1) := e
      cases q : argC ρ io r with
      | none => rw [q] at e; cases e
      | some z =>
        obtain ⟨r1, ρ2⟩ := z
        rw [q] at e
        have e : argC2 r1 (argsC ios rs ρ2) = some (_, ρ1) := e
        cases q2 : argsC ios rs ρ2 with
        | none => rw [q2] at e; cases e
        | some z =>
          obtain ⟨rs1, ρ3⟩ := z
          rw [q2] at e
          cases e
          have I : En T F S ρ Φ (r.rts v ++ (rtsL vs rs ++ X)) H := by rw [← List.append_assoc]; exact I
          obtain ⟨F2, s2, I2, h2⟩ := argC_ok I h q
          have I2' : En T F2 S ρ2 Φ (rtsL vs rs ++ (r1.rts v ++ X)) H := I2.permX (by
            rw [← List.append_assoc, ← List.append_assoc]
            exact List.Perm.append_right X List.perm_append_comm)
          obtain ⟨F3, s3, I3, h3⟩ := argsC_ok (ios := ios) (rs := rs) I2' (t.mono s2) q2
          refine ⟨F3, s2.trans s3, I3.permX (by
            rw [← List.append_assoc]
            show ((rtsL vs rs1 ++ r1.rts v) ++ X).Perm ((r1.rts v ++ rtsL vs rs1) ++ X)
            exact List.Perm.append_right X List.perm_append_comm), .cons (h2.mono s3 fun a o z => ⟨o, z, rfl⟩) h3⟩
/-- what is lent, in full -/
structure Lr where
  i : Nat
  π : List Nat
  u : V
  io : Bool
  t : Py
  d : Py
  w : V
structure LrOk (H : Hp) (S : List (Option V)) (ρ : Rho) (l : Lr) : Prop where
  sl : ρ[l.i]? = some (.ow l.io l.t)
  va : S[l.i]? = some (some l.u)
  ge : l.t.getP l.π = some l.d
  mu : l.d.mut = true
  at' : At H l.u l.π l.w
/-- the lent parts among the arguments -/
inductive LnL (H : Hp) (S : List (Option V)) (ρ : Rho) : List V → List (Sl × Ln) → List Lr → Prop
  | nil : LnL H S ρ [] [] []
  | no {v : V} {s : Sl} {vs : List V} {L : List (Sl × Ln)} {Ls : List Lr} : LnL H S ρ vs L Ls → LnL H S ρ (v :: vs) ((s, none) :: L) Ls
  | yes {l : Lr} {vs : List V} {L : List (Sl × Ln)} {Ls : List Lr} : LrOk H S ρ l → LnL H S ρ vs L Ls → LnL H S ρ (l.w :: vs) ((.ow true l.d, some (l.i, l.π)) :: L) (l :: Ls)
theorem lend_ok : ∀ {ios : List Bool} {rs : List Rv} {vs : List V} {L : List (Sl × Ln)}, En T F S ρ Φ X H → RRL T F H S vs rs → lendsOf ρ ios rs = some L → ∃ Ls, LnL H S ρ vs L Ls ∧ argsFit ios (L.map (·.1)) = true ∧ (rtsL vs rs ++ Ls.map fun l => (l.w, l.d)).Perm (rts (vs.map some) (L.map (·.1))) ∧ (∀ (k : Nat) s, (L.map (·.1))[k]? = some s → ∀ io d, s = .im io d → ∃ v, vs[k]? = some v ∧ Rep T F v d) ∧ vs.length = L.length
  | [], [], _, _, I, h, e => by
    cases h
    cases e
    exact ⟨[], .nil, rfl, List.Perm.refl _, (fun k s e => by cases e), rfl⟩
  | [], _ :: _, _, _, _, _, e => by cases e
  | _ :: _, [], _, _, _, _, e => by cases e
  | io :: ios, r :: rs, _, _, I, h, e => by
    cases h with
    | cons h t =>
      rename_i v vs
      have e : lendC (lendOf ρ io r) (lendsOf ρ ios rs) = some _ := e
      cases q : lendOf ρ io r with
      | none => rw [q] at e; cases e
      | some x =>
        cases q2 : lendsOf ρ ios rs with
        | none => rw [q, q2] at e; cases e
        | some L =>
          rw [q, q2] at e
          cases e
          obtain ⟨Ls, h1, h2, h3, h4, h5⟩ := lend_ok (ios := ios) (rs := rs) I t q2
          have ims : ∀ {s : Sl}, (∀ io d, s = .im io d → Rep T F v d) → ∀ (k : Nat) s', (s :: L.map (·.1))[k]? = some s' → ∀ io d, s' = .im io d → ∃ v', (v :: vs)[k]? = some v' ∧ Rep T F v' d := fun {s} hs k s' e io d es => by
            cases k with
            | zero => cases e; exact ⟨v, rfl, hs io d es⟩
            | succ k => exact h4 k s' e io d es
          cases r with
          | im d =>
            have z : x = (.im io d, none) := by cases io <;> exact (Option.some.inj q).symm
            subst z
            refine ⟨Ls, .no h1, ?_, h3, ims (fun _ _ z => by cases z; exact h), by rw [List.length_cons, List.length_cons, h5]⟩
            show (argFit io (.im io d) && argsFit ios (L.map (·.1))) = true
            rw [h2]; cases io <;> rfl
          | fr d =>
            have z : x = (.ow io d, none) := by cases io <;> exact (Option.some.inj q).symm
            subst z
            refine ⟨Ls, .no h1, ?_, h3.cons _, ims (fun _ _ z => by cases z), by rw [List.length_cons, List.length_cons, h5]⟩
            show (argFit io (.ow io d) && argsFit ios (L.map (·.1))) = true
            rw [h2]; cases io <;> rfl
          | bo i π =>
            cases io with
            | false => cases q
            | true =>
              have q : lendB i π ρ[i]? = some x := q
              obtain ⟨u, hu, a⟩ := h
              cases hs : ρ[i]? with
              | none => rw [hs] at q; cases q
              | some s0 =>
                rw [hs] at q
                cases s0 with
                | no => cases q
                | al _ _ => cases q
                | im io0 t0 =>
                  have q : (if π = [] then some (Sl.im true t0, (none : Ln)) else none) = some x := q
                  by_cases hp : π = []
                  · rw [if_pos hp] at q
                    cases q
                    subst hp
                    cases a
                    obtain ⟨w, q1, q2⟩ := I.sl i _ hs
                    rw [hu] at q1
                    cases q1
                    refine ⟨Ls, .no h1, ?_, h3, ims (fun _ _ z => by cases z; exact q2), by rw [List.length_cons, List.length_cons, h5]⟩
                    show (argFit true (.im true t0) && argsFit ios (L.map (·.1))) = true
                    rw [h2]; rfl
                  · rw [if_neg hp] at q; cases q
                | ow io0 t0 =>
                  have q : lendP i π (t0.getP π) = some x := q
                  cases hg : t0.getP π with
                  | none => rw [hg] at q; cases q
                  | some d =>
                    rw [hg] at q
                    have q : (if d.mut = true then some (Sl.ow true d, some (i, π)) else none) = some x := q
                    by_cases hm : d.mut = true
                    · rw [if_pos hm] at q
                      cases q
                      refine ⟨⟨i, π, u, io0, t0, d, v⟩ :: Ls, .yes (l := ⟨i, π, u, io0, t0, d, v⟩) ⟨hs, hu, hg, hm, a⟩ h1, ?_, ?_, ims (fun _ _ z => by cases z), by rw [List.length_cons, List.length_cons, h5]⟩
                      · show (argFit true (.ow true d) && argsFit ios (L.map (·.1))) = true
                        rw [h2]; rfl
                      · show (rtsL vs rs ++ (v, d) :: Ls.map fun l => (l.w, l.d)).Perm ((v, d) :: rts (vs.map some) (L.map (·.1)))
                        exact List.perm_middle.trans (h3.cons _)
                    · rw [if_neg hm] at q; cases q
/-- the lent trees aside -/
def clearL (ρ : Rho) : List Lr → Rho
  | [] => ρ
  | l :: Ls => clearL (ρ.set l.i .no) Ls
theorem clear_get : ∀ {Ls : List Lr} {ρ : Rho} {j : Nat}, (∀ l ∈ Ls, l.i ≠ j) → (clearL ρ Ls)[j]? = ρ[j]?
  | [], _, _, _ => rfl
  | l :: Ls, ρ, j, h => by
    show (clearL (ρ.set l.i .no) Ls)[j]? = _
    rw [clear_get fun x hx => h x (List.mem_cons_of_mem _ hx), List.getElem?_set_ne (h l List.mem_cons_self)]
theorem clear_rts : ∀ {Ls : List Lr} {ρ : Rho}, (Ls.map (·.i)).Nodup → (∀ l ∈ Ls, LrOk H S ρ l) → (rts S ρ).Perm ((Ls.map fun l => (l.u, l.t)) ++ rts S (clearL ρ Ls))
  | [], _, _, _ => List.Perm.refl _
  | l :: Ls, ρ, nd, h => by
    have nd := List.nodup_cons.mp nd
    have hl := h l List.mem_cons_self
    refine (rts_take (s := .no) rfl hl.sl hl.va).trans (List.Perm.cons _ ?_)
    refine clear_rts nd.2 fun x hx => ?_
    have q := h x (List.mem_cons_of_mem _ hx)
    have ne : l.i ≠ x.i := fun z => nd.1 (by show l.i ∈ Ls.map (·.i); rw [z]; exact List.mem_map_of_mem (f := (·.i)) hx)
    exact ⟨by rw [List.getElem?_set_ne ne]; exact q.sl, q.va, q.ge, q.mu, q.at'⟩
/-- the lent parts taken out of their trees, and others put in -/
theorem lend_open : ∀ {Ls : List Lr} {A : List Addr}, (∀ l ∈ Ls, LrOk H S ρ l) → TrP T F H (Ls.map fun l => (l.u, l.t)) A → ∃ B C, TrP T F H (Ls.map fun l => (l.w, l.d)) B ∧ A.Perm (B ++ C) ∧
    ∀ {F' H' : Hp} {ds : List Py} {B' : List Addr}, Same F F' → (∀ a ∈ C, H' a = H a) → ds.length = Ls.length → (∀ d ∈ ds, d.imm = false) → TrP T F' H' (List.zipWith (fun (l : Lr) d => (l.w, d)) Ls ds) B' →
      (∃ A', TrP T F' H' (List.zipWith (fun (l : Lr) d => (l.u, l.t.putP l.π d)) Ls ds) A' ∧ A'.Perm (B' ++ C)) ∧ ∀ l ∈ Ls, At H' l.u l.π l.w
  | [], _, _, h => by
    cases h
    refine ⟨[], [], .nil, List.Perm.refl _, fun {F' H' ds B'} _ _ e _ r => ?_⟩
    cases ds with
    | cons _ _ => cases e
    | nil => cases r; exact ⟨⟨[], .nil, List.Perm.refl _⟩, fun l hl => nomatch hl⟩
  | l :: Ls, _, ok, h => by
    cases h with
    | cons t r =>
      rename_i A A2
      have hl := ok l List.mem_cons_self
      obtain ⟨u', B, pre, post, e1, t2, a2, put⟩ := t.focus hl.ge (.inr (Py.mut_imm hl.mu))
      cases hl.at'.one a2
      obtain ⟨B2, C2, r2, p2, put2⟩ := lend_open (fun x hx => ok x (List.mem_cons_of_mem _ hx)) r
      refine ⟨B ++ B2, pre ++ post ++ C2, .cons t2 r2, ?_, fun {F' H' ds B'} s hC e ni rr => ?_⟩
      · rw [e1]
        refine (List.Perm.append_left _ p2).trans ?_
        have h1 : (pre ++ (B ++ post)).Perm (B ++ (pre ++ post)) := by
          rw [← List.append_assoc, ← List.append_assoc]
          exact List.Perm.append_right post List.perm_append_comm
        refine (List.Perm.append_right _ h1).trans ?_
        rw [List.append_assoc B, List.append_assoc B]
        refine List.Perm.append_left B ?_
        rw [← List.append_assoc, ← List.append_assoc]
        exact List.Perm.append_right C2 List.perm_append_comm
      · cases ds with
        | nil => cases e
        | cons d' ds =>
          cases rr with
          | cons t' r' =>
            rename_i B1' B2'
            obtain ⟨pt, pa⟩ := put s (fun a ha => hC a (List.mem_append_left _ ha)) (ni d' List.mem_cons_self) t'
            obtain ⟨⟨A', q1, q2⟩, q3⟩ := put2 s (fun a ha => hC a (List.mem_append_right _ ha)) (Nat.succ.inj e) (fun x hx => ni x (List.mem_cons_of_mem _ hx)) r'
            refine ⟨⟨_, .cons pt q1, ?_⟩, fun x hx => ?_⟩
            · refine (List.Perm.append_left _ q2).trans ?_
              have h1 : (pre ++ (B1' ++ post)).Perm (B1' ++ (pre ++ post)) := by
                rw [← List.append_assoc, ← List.append_assoc]
                exact List.Perm.append_right post List.perm_append_comm
              refine (List.Perm.append_right _ h1).trans ?_
              rw [List.append_assoc B1', List.append_assoc B1']
              refine List.Perm.append_left B1' ?_
              rw [← List.append_assoc, ← List.append_assoc]
              exact List.Perm.append_right C2 List.perm_append_comm
            · rcases List.mem_cons.mp hx with z | z
              · rw [z]; exact pa
              · exact q3 x z
/-- a way stays where the tree's objects do -/
theorem Tr.onA : ∀ {π : List Nat} {v w : V} {t d : Py} {A : List Addr}, Tr T F H v t A → t.getP π = some d → (π = [] ∨ d.imm = false) → (∀ a ∈ A, H' a = H a) → At H v π w → At H' v π w
  | [], _, _, _, _, _, _, _, _, _, a => a
  | n :: π, v, w, t, d, A, h, e, hd, k, ⟨q, o, x, e1, h1, h2, a⟩ => by
    have hd : d.imm = false := hd.elim (fun z => by cases z) id
    have e' : (match t.kids[n]? with | some k => k.getP π | none => none) = some d := e
    cases h with
    | leaf _ i => rw [imm_getP i e] at hd; cases hd
    | fz _ => cases e'
    | node hq s _ r =>
      rename_i q' o2 A
      cases e1
      rw [hq] at h1
      cases h1
      cases z : t.kids[n]? with
      | none => rw [z] at e'; cases e'
      | some kk =>
        rw [z] at e'
        obtain ⟨x', C, pre, post, e3, e4, t1, _⟩ := r.at z
        rw [h2] at e3
        cases e3
        refine ⟨q, o, x, rfl, (k q List.mem_cons_self).trans hq, h2, Tr.onA (π := π) t1 e' (.inr hd) (fun b hb => k b ?_) a⟩
        rw [e4]
        exact List.mem_cons_of_mem _ (List.mem_append_right _ (List.mem_append_left _ hb))
theorem LnL.mem {vs : List V} {L : List (Sl × Ln)} {Ls : List Lr} (h : LnL H S ρ vs L Ls) : (∀ l ∈ Ls, LrOk H S ρ l) ∧ (lnIx L).map (·.1) = Ls.map (·.i) := by
  induction h with
  | nil => exact ⟨(fun l hl => nomatch hl), rfl⟩
  | no _ ih => exact ih
  | yes ok _ ih =>
    refine ⟨fun l hl => ?_, congrArg (_ :: ·) ih.2⟩
    rcases List.mem_cons.mp hl with z | z
    · rw [z]; exact ok
    · exact ih.1 l z
theorem LnL.look {vs : List V} {L : List (Sl × Ln)} {Ls : List Lr} (h : LnL H S ρ vs L Ls) (j : Nat) : (lookIx j (lnIx L) = none ∧ ∀ l ∈ Ls, l.i ≠ j) ∨ ∃ l ∈ Ls, l.i = j ∧ lookIx j (lnIx L) = some l.π := by
  induction h with
  | nil => exact .inl ⟨rfl, fun l hl => nomatch hl⟩
  | no _ ih => exact ih
  | yes ok _ ih =>
    rename_i l vs L Ls _
    show (((if l.i = j then some l.π else lookIx j (lnIx L)) = none) ∧ _) ∨ _
    by_cases hj : l.i = j
    · exact .inr ⟨l, List.mem_cons_self, hj, by show (if l.i = j then some l.π else _) = _; rw [if_pos hj]⟩
    · rw [if_neg hj]
      rcases ih with ⟨z1, z2⟩ | ⟨x, z1, z2, z3⟩
      · refine .inl ⟨z1, fun x hx => ?_⟩
        rcases List.mem_cons.mp hx with z | z
        · rw [z]; exact hj
        · exact z2 x z
      · exact .inr ⟨x, List.mem_cons_of_mem _ z1, z2, by show (if l.i = j then some l.π else _) = _; rw [if_neg hj]; exact z3⟩
/-- the parts that come back -/
theorem backs_ok : ∀ {vs : List V} {L : List (Sl × Ln)} {Ls : List Lr} {os : List Sl} {ρ0 ρ1 : Rho}, LnL H S ρ vs L Ls → (Ls.map (·.i)).Nodup → (∀ l ∈ Ls, ρ0[l.i]? = some (.ow l.io l.t)) → os.length = L.length → backs L os ρ0 = some ρ1 →
    ∃ ds : List Py, ds.length = Ls.length ∧ (∀ d ∈ ds, d.imm = false) ∧ (∃ R, (List.zipWith (fun (l : Lr) d => (l.w, d)) Ls ds ++ R).Perm (rts (vs.map some) os)) ∧ ρ1.length = ρ0.length ∧
      (∀ j, (∀ l ∈ Ls, l.i ≠ j) → ρ1[j]? = ρ0[j]?) ∧ (∀ l ∈ Ls, ∃ d, ρ1[l.i]? = some (.ow l.io d)) ∧ (∀ S : List (Option V), (∀ l ∈ Ls, S[l.i]? = some (some l.u)) → ((List.zipWith (fun (l : Lr) d => (l.u, l.t.putP l.π d)) Ls ds) ++ rts S (clearL ρ0 Ls)).Perm (rts S ρ1))
  | _, [], _, os, ρ0, ρ1, h, _, _, hl, e => by
    cases h
    cases e
    refine ⟨[], rfl, (fun d hd => nomatch hd), ⟨rts ([] : List (Option V)) os, List.Perm.refl _⟩, rfl, fun _ _ => rfl, (fun l hl => nomatch hl), fun S _ => List.Perm.refl _⟩
  | _, (s, none) :: L, Ls, [], _, _, h, _, _, hl, _ => by cases hl
  | _, (s, some x) :: L, Ls, [], _, _, h, _, _, hl, _ => by cases hl
  | _, (s, none) :: L, Ls, o :: os, ρ0, ρ1, .no (v := v) h, nd, hs, hl, e => by
    obtain ⟨ds, h1, h2, ⟨R, h3⟩, h4⟩ := backs_ok h nd hs (Nat.succ.inj hl) e
    refine ⟨ds, h1, h2, ?_, h4⟩
    cases o with
    | ow io t => exact ⟨(v, t) :: R, by rw [List.map_cons, rts_ow]; exact List.perm_middle.trans (h3.cons _)⟩
    | no => exact ⟨R, by rw [List.map_cons, rts_no rfl]; exact h3⟩
    | im _ _ => exact ⟨R, by rw [List.map_cons, rts_no rfl]; exact h3⟩
    | al _ _ => exact ⟨R, by rw [List.map_cons, rts_no rfl]; exact h3⟩
  | _, _, _, o :: os, ρ0, ρ1, .yes (l := l) (L := L) (Ls := Ls) ok h, nd, hs, hl, e => by
    have nd := List.nodup_cons.mp (show (l.i :: Ls.map (·.i)).Nodup from nd)
    have e : backO (backs L os) (back1 l.i l.π ρ0 o) = some ρ1 := e
    have hs0 := hs l List.mem_cons_self
    cases o with
    | no => cases e
    | im _ _ => cases e
    | al _ _ => cases e
    | ow io d =>
      have e : backO (backs L os) (back2 l.i l.π ρ0 d ρ0[l.i]?) = some ρ1 := e
      rw [hs0] at e
      have e : backO (backs L os) (if d.imm = true then none else some (ρ0.set l.i (.ow l.io (l.t.putP l.π d)))) = some ρ1 := e
      by_cases him : d.imm = true
      · rw [if_pos him] at e; cases e
      · rw [if_neg him] at e
        have e : backs L os (ρ0.set l.i (.ow l.io (l.t.putP l.π d))) = some ρ1 := e
        have lt : l.i < ρ0.length := (List.getElem?_eq_some_iff.mp hs0).1
        have ne : ∀ x ∈ Ls, l.i ≠ x.i := fun x hx z => nd.1 (by rw [z]; exact List.mem_map_of_mem (f := (·.i)) hx)
        obtain ⟨ds, h1, h2, ⟨R, h3⟩, h4, h5, h6, h7⟩ := backs_ok h nd.2 (fun x hx => by rw [List.getElem?_set_ne (ne x hx)]; exact hs x (List.mem_cons_of_mem _ hx)) (Nat.succ.inj hl) e
        refine ⟨d :: ds, by rw [List.length_cons, List.length_cons, h1], fun x hx => ?_, ⟨R, ?_⟩, ?_, fun j hj => ?_, fun x hx => ?_, fun S hS => ?_⟩
        · rcases List.mem_cons.mp hx with z | z
          · rw [z]; simpa using him
          · exact h2 x z
        · rw [List.map_cons, rts_ow, List.zipWith_cons_cons, List.cons_append]; exact h3.cons _
        · rw [h4, List.length_set]
        · rw [h5 j fun x hx => hj x (List.mem_cons_of_mem _ hx), List.getElem?_set_ne (hj l List.mem_cons_self)]
        · rcases List.mem_cons.mp hx with z | z
          · rw [z, h5 l.i fun y hy => (ne y hy).symm, List.getElem?_set_self lt]; exact ⟨_, rfl⟩
          · exact h6 x z
        · have q := h7 S fun x hx => hS x (List.mem_cons_of_mem _ hx)
          rw [List.zipWith_cons_cons, List.cons_append]
          refine List.Perm.trans ?_ q
          -- the slot l.i in both
          have c1 : (clearL (ρ0.set l.i (.ow l.io (l.t.putP l.π d))) Ls)[l.i]? = some (.ow l.io (l.t.putP l.π d)) := by
            rw [clear_get fun x hx => (ne x hx).symm, List.getElem?_set_self lt]
          have c2 : (clearL (ρ0.set l.i (.ow l.io (l.t.putP l.π d))) Ls).set l.i .no = clearL (ρ0.set l.i .no) Ls := by
            have go : ∀ {Ls : List Lr} {ρ : Rho} {i : Nat}, (∀ x ∈ Ls, i ≠ x.i) → (clearL ρ Ls).set i .no = clearL (ρ.set i .no) Ls := by
              intro Ls
              induction Ls with
              | nil => intro ρ i _; rfl
              | cons a Ls ih =>
                intro ρ i h
                show (clearL (ρ.set a.i .no) Ls).set i .no = clearL ((ρ.set i .no).set a.i .no) Ls
                rw [ih fun x hx => h x (List.mem_cons_of_mem _ hx), List.set_comm _ _ (h a List.mem_cons_self).symm]
            rw [go ne, List.set_set]
          have p := rts_take (s := .no) rfl c1 (hS l List.mem_cons_self)
          rw [c2] at p
          exact (List.perm_middle.symm).trans (List.Perm.append_left _ p.symm)
theorem argsFit_al : ∀ {ios : List Bool} {as : List Sl} {k j : Nat} {π : List Nat}, argsFit ios as = true → as[k]? ≠ some (.al j π)
  | [], [], _, _, _, _ => fun e => by cases e
  | [], _ :: _, _, _, _, h => by cases h
  | _ :: _, [], _, _, _, h => by cases h
  | io :: ios, a :: as, 0, j, π, h => fun e => by
    cases e
    cases (Bool.and_eq_true_iff.mp h).1
  | io :: ios, a :: as, k + 1, j, π, h => argsFit_al (ios := ios) (as := as) (k := k) (Bool.and_eq_true_iff.mp h).2
theorem clear_map {f : Sl → Sl} (h : f .no = .no) : ∀ {Ls : List Lr} {ρ : Rho}, clearL (ρ.map f) Ls = (clearL ρ Ls).map f
  | [], _ => rfl
  | l :: Ls, ρ => by
    show clearL ((ρ.map f).set l.i .no) Ls = (clearL (ρ.set l.i .no) Ls).map f
    rw [← clear_map h, List.map_set, h]
theorem calm_cutC (ρ : Rho) (l : List (Nat × List Nat)) : Calm (Sl.cutC ρ l) := ⟨fun _ _ => rfl, fun s h => by
  cases s with
  | al j π =>
    show (if okA ρ j π = true then (match lookIx j l with | some π' => if π = π' then Sl.al j π else .no | none => .al j π) else .no).isOw = false
    by_cases a : okA ρ j π = true
    · rw [if_pos a]
      cases lookIx j l with
      | none => rfl
      | some π' =>
        show (if π = π' then Sl.al j π else .no).isOw = false
        split <;> rfl
    · rw [if_neg a]; rfl
  | ow _ _ => cases h
  | _ => rfl⟩
theorem LnL.at {vs : List V} {L : List (Sl × Ln)} {Ls : List Lr} (h : LnL H S ρ vs L Ls) : ∀ {k : Nat} {s : Sl} {i : Nat} {π : List Nat}, L[k]? = some (s, some (i, π)) → ∃ l ∈ Ls, l.i = i ∧ l.π = π ∧ vs[k]? = some l.w := by
  induction h with
  | nil => exact fun e => by cases e
  | no _ ih =>
    intro k s i π e
    cases k with
    | zero => cases e
    | succ k => exact ih e
  | yes ok _ ih =>
    intro k s i π e
    cases k with
    | zero => cases e; exact ⟨_, List.mem_cons_self, rfl, rfl, rfl⟩
    | succ k =>
      obtain ⟨l, h1, h2⟩ := ih e
      exact ⟨l, List.mem_cons_of_mem _ h1, h2⟩
theorem TrP.mem : ∀ {L : Rts} {A : List Addr} {v : V} {t : Py}, TrP T F H L A → (v, t) ∈ L → ∃ B, Tr T F H v t B ∧ ∀ a ∈ B, a ∈ A
  | _, _, _, _, .nil, h => nomatch h
  | _, _, _, _, .cons (A := A) t r, h => by
    rcases List.mem_cons.mp h with z | z
    · cases z
      exact ⟨A, t, fun a ha => List.mem_append_left _ ha⟩
    · obtain ⟨B, h1, h2⟩ := r.mem z
      exact ⟨B, h1, fun a ha => List.mem_append_right _ (h2 a ha)⟩
theorem rts_mem {v : V} {io : Bool} {t : Py} : ∀ {σ : List (Option V)} {ρ : Rho} {i : Nat}, ρ[i]? = some (.ow io t) → σ[i]? = some (some v) → (v, t) ∈ rts σ ρ
  | [], _, _, _, e => by cases e
  | _ :: _, [], _, e, _ => by cases e
  | x :: σ, a :: ρ, 0, e, e2 => by cases e; cases e2; exact List.mem_cons_self
  | x :: σ, a :: ρ, i + 1, e, e2 => by
    have ih := rts_mem (σ := σ) (ρ := ρ) (i := i) e e2
    cases ha : a.isOw with
    | false => rw [rts_no ha]; exact ih
    | true =>
      cases a <;> try cases ha
      cases x with
      | none => rw [rts_none]; exact ih
      | some w => rw [rts_ow]; exact List.mem_cons_of_mem _ ih
open Classical in
/-- the frame of the called -/
noncomputable def frmC (H : Hp) (Φ : Frm) (D : List Addr) (io : Nat → Option V) : Frm := ⟨fun a => if a ∈ D then H a else Φ a, io, Φ.lk⟩
theorem frmC_in {D : List Addr} {io : Nat → Option V} {a : Addr} (h : a ∈ D) : frmC H Φ D io a = H a := if_pos h
theorem frmC_out {D : List Addr} {io : Nat → Option V} {a : Addr} (h : a ∉ D) : frmC H Φ D io a = Φ a := if_neg h
def ioC (vs : List V) (as : List Sl) (k : Nat) : Option V := if isIoAt as[k]? = true then vs[k]? else none
/-- a call's frame, and what holds when it is done -/
theorem call_frame [hT : NoSg T] {vs : List V} {rs : List Rv} {L : List (Sl × Ln)} {Ls : List Lr} (I : En T F S ρ Φ (rtsL vs rs) H) (ll : LnL H S ρ vs L Ls) (nd : ((lnIx L).map (·.1)).Nodup)
    (h3 : (rtsL vs rs ++ Ls.map fun l => (l.w, l.d)).Perm (rts (vs.map some) (L.map (·.1)))) (h4 : ∀ (k : Nat) s, (L.map (·.1))[k]? = some s → ∀ io d, s = .im io d → ∃ v, vs[k]? = some v ∧ Rep T F v d) (h5 : vs.length = L.length) (fit : ∃ ios, argsFit ios (L.map (·.1)) = true) :
    ∃ D : List Addr, En T F (vs.map some) (L.map (·.1)) (frmC H Φ D (ioC vs (L.map (·.1)))) [] H ∧ (∀ a, frmC H Φ D (ioC vs (L.map (·.1))) a = none → Φ a = none) ∧
      ∀ {F' H' : Hp} {os : List Sl} {Y : Rts} {ρ2 : Rho}, Same F F' → En T F' (vs.map some) os (frmC H Φ D (ioC vs (L.map (·.1)))) Y H' → backs L os (ρ.map (Sl.cutC ρ (lnIx L))) = some ρ2 → En T F' S ρ2 Φ Y H' ∧ ∀ l ∈ Ls, At H' l.u l.π l.w := by
  obtain ⟨oks, ixs⟩ := ll.mem
  have nd' : (Ls.map (·.i)).Nodup := by rw [← ixs]; exact nd
  have p0 : (rtsL vs rs ++ rts S ρ).Perm (rtsL vs rs ++ ((Ls.map fun l => (l.u, l.t)) ++ rts S (clearL ρ Ls))) := List.Perm.append_left _ (clear_rts nd' oks)
  obtain ⟨A, tA, ndA, fA⟩ := I.rt.perm p0
  obtain ⟨A0, A12, rfl, t0, t12⟩ := tA.split
  obtain ⟨A1, A2, rfl, t1, t2⟩ := t12.split
  obtain ⟨B, C, tB, pA1, put⟩ := lend_open oks t1
  have pA : (A0 ++ (A1 ++ A2)).Perm ((A0 ++ B) ++ (C ++ A2)) := by
    refine (List.Perm.append_left A0 (List.Perm.append_right A2 pA1)).trans ?_
    rw [List.append_assoc, List.append_assoc]
  have memA : ∀ a, a ∈ A0 ++ (A1 ++ A2) ↔ a ∈ (A0 ++ B) ++ (C ++ A2) := fun a => pA.mem_iff
  have ndX := pA.nodup_iff.mp ndA
  obtain ⟨ndAB, ndCD, dis⟩ := List.nodup_append.mp ndX
  have hD : ∀ a ∈ C ++ A2, (∃ o, H a = some o) ∧ F a = none ∧ Φ a = none := fun a ha => by
    have m : a ∈ A0 ++ (A1 ++ A2) := (memA a).mpr (List.mem_append_right _ ha)
    obtain ⟨o, e, _⟩ := tA.dom a m
    exact ⟨⟨o, e⟩, fA a m⟩
  have hAB : ∀ a ∈ A0 ++ B, F a = none ∧ Φ a = none := fun a ha => fA a ((memA a).mpr (List.mem_append_left _ ha))
  refine ⟨C ++ A2, ⟨I.fh, I.lo, by rw [List.length_map, List.length_map, h5], fun s e => by (rw [hT.h] at e; cases e), fun a o e => ?_, fun k s e => ?_, ?_, fun k v e => ?_, I.lk, fun a e => ?_⟩, fun a e => ?_, fun {F' H' os Y ρ2} s1 I' eb => ?_⟩
  · by_cases ha : a ∈ C ++ A2
    · rw [frmC_in ha] at e
      exact ⟨e, (hD a ha).2.1⟩
    · rw [frmC_out ha] at e
      exact I.ph a o e
  · have kl : k < vs.length := by have := (List.getElem?_eq_some_iff.mp e).1; rw [List.length_map] at this; omega
    obtain ⟨v, hv⟩ : ∃ v, vs[k]? = some v := ⟨_, List.getElem?_eq_getElem kl⟩
    have hv' : (vs.map some)[k]? = some (some v) := by rw [List.getElem?_map, hv]; rfl
    cases s with
    | no => trivial
    | im io d =>
      obtain ⟨w, q1, q2⟩ := h4 k _ e io d rfl
      exact ⟨w, by rw [List.getElem?_map, q1]; rfl, q2⟩
    | ow io d => exact ⟨v, hv'⟩
    | al j π =>
      obtain ⟨ios, hf⟩ := fit
      exact absurd e (argsFit_al hf)
  · refine Sep.perm (L := rtsL vs rs ++ Ls.map fun l => (l.w, l.d)) (by rw [List.nil_append]; exact h3) ⟨A0 ++ B, t0.app tB, ndAB, fun a ha => ⟨(hAB a ha).1, ?_⟩⟩
    rw [frmC_out fun z => dis a ha a z rfl]
    exact (hAB a ha).2
  · have e : ioC vs (L.map (·.1)) k = some v := e
    unfold ioC at e
    by_cases hi : isIoAt (L.map (·.1))[k]? = true
    · rw [if_pos hi] at e
      refine ⟨by rw [List.getElem?_map, e]; rfl, ?_⟩
      cases ha : (L.map (·.1))[k]? with
      | none => rw [ha] at hi; cases hi
      | some a => rw [ha] at hi; exact ⟨a, rfl, hi⟩
    · rw [if_neg hi] at e; cases e
  · rcases I.lkx a e with z | z
    · by_cases ha : a ∈ C ++ A2
      · exact absurd (hD a ha).2.2 z
      · exact .inl (by rw [frmC_out ha]; exact z)
    · exact .inr z
  · by_cases ha : a ∈ C ++ A2
    · exact (hD a ha).2.2
    · rw [frmC_out ha] at e; exact e
  · have ho : os.length = L.length := by rw [← I'.len, List.length_map, h5]
    have hs0 : ∀ l ∈ Ls, (ρ.map (Sl.cutC ρ (lnIx L)))[l.i]? = some (.ow l.io l.t) := fun l hl => by
      rw [List.getElem?_map, (oks l hl).sl]; rfl
    obtain ⟨ds, e1, e2, ⟨R, pR⟩, e3, e4, e5, e6⟩ := backs_ok ll nd' hs0 ho eb
    have kD : ∀ a ∈ C ++ A2, H' a = H a ∧ F' a = none := fun a ha => by
      obtain ⟨⟨o, e⟩, _⟩ := hD a ha
      have q := I'.ph a o (by rw [frmC_in ha]; exact e)
      exact ⟨by rw [q.1, e], q.2⟩
    have q := I'.rt.perm (List.Perm.append_left Y pR.symm)
    rw [← List.append_assoc] at q
    obtain ⟨AY, tY, ndY, fY⟩ := q.left
    obtain ⟨AY, B', rfl, tY, tB'⟩ := tY.split
    obtain ⟨⟨A1', tA1, pA1'⟩, ats⟩ := put s1 (fun a ha => (kD a (List.mem_append_left _ ha)).1) e1 e2 tB'
    have t2' : TrP T F' H' (rts S (clearL (ρ.map (Sl.cutC ρ (lnIx L))) Ls)) A2 := by
      rw [clear_map rfl, rts_map (calm_cutC _ _)]
      exact t2.keep s1 fun a ha => (kD a (List.mem_append_right _ ha)).1
    have fYD : ∀ a ∈ AY ++ B', a ∉ C ++ A2 ∧ F' a = none ∧ Φ a = none := fun a ha => by
      obtain ⟨z1, z2⟩ := fY a ha
      by_cases hc : a ∈ C ++ A2
      · obtain ⟨⟨o, e⟩, _⟩ := hD a hc
        rw [frmC_in hc, e] at z2
        cases z2
      · rw [frmC_out hc] at z2
        exact ⟨hc, z1, z2⟩
    have hva : ∀ l ∈ Ls, S[l.i]? = some (some l.u) := fun l hl => (oks l hl).va
    refine ⟨⟨I'.fh, I'.lo, ?_, fun s e => by (rw [hT.h] at e; cases e), fun a o e => ?_, fun k s e => ?_, ?_, fun k v e => ?_, I'.lk, fun a e => ?_⟩, ats⟩
    · rw [e3, List.length_map]; exact I.len
    · have ha : a ∉ C ++ A2 := fun z => by rw [(hD a z).2.2] at e; cases e
      exact I'.ph a o (by rw [frmC_out ha]; exact e)
    · by_cases hk : ∃ l ∈ Ls, l.i = k
      · obtain ⟨l, hl, rfl⟩ := hk
        obtain ⟨d, z⟩ := e5 l hl
        rw [z] at e
        cases e
        exact ⟨_, hva l hl⟩
      · have e := (e4 k fun l hl z => hk ⟨l, hl, z⟩).symm.trans e
        rw [List.getElem?_map] at e
        cases h0 : ρ[k]? with
        | none => rw [h0] at e; cases e
        | some s0 =>
          rw [h0] at e
          have e := Option.some.inj e
          subst e
          have ok := I.sl k s0 h0
          cases s0 with
          | no => trivial
          | im io d => obtain ⟨v, z1, z2⟩ := ok; exact ⟨v, z1, z2.mono s1⟩
          | ow io d => exact ok
          | al j π =>
            obtain ⟨v, u, z1, z2, z3⟩ := ok
            show SlOk T F' H' S k (if okA ρ j π = true then (match lookIx j (lnIx L) with | some π' => if π = π' then .al j π else .no | none => .al j π) else .no)
            by_cases hA : okA ρ j π = true
            · rw [if_pos hA]
              rcases ll.look j with ⟨y1, y2⟩ | ⟨l, y1, y2, y3⟩
              · rw [y1]
                refine ⟨v, u, z1, z2, ?_⟩
                obtain ⟨io, t, d, w1, w2, w3⟩ := okA_some hA
                have cl : (clearL ρ Ls)[j]? = some (.ow io t) := by rw [clear_get y2]; exact w1
                obtain ⟨G, tG, hG⟩ := t2.mem (rts_mem cl z2)
                exact tG.onA w2 (.inr w3) (fun a ha => (kD a (List.mem_append_right _ (hG a ha))).1) z3
              · rw [y3]
                show SlOk T F' H' S k (if π = l.π then .al j π else .no)
                by_cases hp : π = l.π
                · rw [if_pos hp]
                  refine ⟨v, u, z1, z2, ?_⟩
                  have ok := oks l y1
                  rw [hp] at z3 ⊢
                  have ul := ok.va
                  rw [y2, z2] at ul
                  cases ul
                  cases z3.one ok.at'
                  exact ats l y1
                · rw [if_neg hp]; trivial
            · rw [if_neg hA]; trivial
    · have pp : (Y ++ rts S ρ2).Perm (Y ++ ((List.zipWith (fun (l : Lr) d => (l.u, l.t.putP l.π d)) Ls ds) ++ rts S (clearL (ρ.map (Sl.cutC ρ (lnIx L))) Ls))) := List.Perm.append_left _ (e6 S hva).symm
      refine Sep.perm pp.symm ⟨AY ++ (A1' ++ A2), tY.app (tA1.app t2'), ?_, fun a ha => ?_⟩
      · have pp2 : (AY ++ (A1' ++ A2)).Perm ((AY ++ B') ++ (C ++ A2)) := by
          refine (List.Perm.append_left AY (List.Perm.append_right A2 pA1')).trans ?_
          rw [List.append_assoc, List.append_assoc]
        refine pp2.nodup_iff.mpr (List.nodup_append.mpr ⟨ndY, ndCD, fun a ha b hb z => ?_⟩)
        subst z
        exact (fYD a ha).1 hb
      · have m : a ∈ (AY ++ B') ∨ a ∈ C ++ A2 := by
          rcases List.mem_append.mp ha with z | z
          · exact .inl (List.mem_append_left _ z)
          · rcases List.mem_append.mp z with z | z
            · rcases List.mem_append.mp (pA1'.mem_iff.mp z) with z | z
              · exact .inl (List.mem_append_right _ z)
              · exact .inr (List.mem_append_left _ z)
            · exact .inr (List.mem_append_right _ z)
        rcases m with z | z
        · exact (fYD a z).2
        · exact ⟨(kD a z).2, (hD a z).2.2⟩
    · obtain ⟨z1, s, z2, z3⟩ := I.io k v e
      refine ⟨z1, ?_⟩
      by_cases hk : ∃ l ∈ Ls, l.i = k
      · obtain ⟨l, hl, rfl⟩ := hk
        obtain ⟨d, z⟩ := e5 l hl
        rw [(oks l hl).sl] at z2
        cases z2
        exact ⟨_, z, z3⟩
      · refine ⟨s, ?_, z3⟩
        rw [e4 k fun l hl z => hk ⟨l, hl, z⟩, List.getElem?_map, z2]
        cases s with
        | al _ _ => cases z3
        | _ => rfl
    · rcases I.lkx a e with z | z
      · exact .inl z
      · refine .inr fun y => ?_
        cases x : F a with
        | none => exact z x
        | some o => rw [s1 a o x] at y; cases y
theorem argsFit_io : ∀ {ios : List Bool} {as : List Sl} {k : Nat} {s : Sl}, argsFit ios as = true → as[k]? = some s → s.isIo = true → isIoAt as[k]? = true := fun _ e h => by rw [e]; exact h
/-- a call -/
theorem call_core [hT : NoSg T] {σ τ : List (Option V)} {m : DM} {rs : List Rv} {vs : List V} {E : XK} (hE : ∀ c d H', W c d σ H' → E c d H') (I : En T F (σ ++ τ) ρ Φ (rtsL vs rs) H) (h : RRL T F H (σ ++ τ) vs rs) (q : EPost T W F σ τ Φ Q (callR m ρ rs)) : spM T m vs H Q E := by
  unfold callR at q
  cases e1 : argsC m.ios rs ρ with
  | none => rw [e1] at q; exact q.elim
  | some z =>
    obtain ⟨rs1, ρ1⟩ := z
    rw [e1] at q
    have q : EPost T W F σ τ Φ Q (call2 m ρ1 (lendsOf ρ1 m.ios rs1)) := q
    obtain ⟨F1, s1, I1, h1⟩ := argsC_ok (X := []) (by rw [List.append_nil]; exact I) h e1
    rw [List.append_nil] at I1
    cases e2 : lendsOf ρ1 m.ios rs1 with
    | none => rw [e2] at q; exact q.elim
    | some L =>
      rw [e2] at q
      have q : EPost T W F σ τ Φ Q (if ((lnIx L).map (·.1)).Nodup then callE L ρ1 (m.run (L.map (·.1))) else .st) := q
      by_cases nd : ((lnIx L).map (·.1)).Nodup
      · rw [if_pos nd] at q
        obtain ⟨Ls, ll, fit, h3, h4, h5⟩ := lend_ok I1 h1 e2
        obtain ⟨D, Ic, hfr, back⟩ := call_frame I1 ll nd h3 h4 h5 ⟨_, fit⟩
        have la := argsFit_len fit
        rw [List.length_map] at la
        refine ⟨by rw [h5, la], F1, L.map (·.1), _, fit, Ic, fun k s e hi => ?_, ?_⟩
        · show ioC vs (L.map (·.1)) k = vs[k]?
          unfold ioC
          rw [if_pos (by rw [e]; exact hi)]
        · cases er : m.run (L.map (·.1)) with
          | st => rw [er] at q; exact q.elim
          | ex c w os =>
            rw [er] at q
            have q : EPost T W F σ τ Φ Q (resX c w (backs L os (ρ1.map (Sl.cutC ρ1 (lnIx L))))) := q
            intro d v F' H' s2 I' rp hd f1 f2
            cases eb : backs L os (ρ1.map (Sl.cutC ρ1 (lnIx L))) with
            | none => rw [eb] at q; exact q.elim
            | some ρ2 =>
              rw [eb] at q
              exact hE _ _ _ (q d v F' H' (s1.trans s2) (back s2 I' eb).1 rp hd f1 (hfr d f2))
          | ok r os =>
            rw [er] at q
            have q : EPost T W F σ τ Φ Q (resK L r (backs L os (ρ1.map (Sl.cutC ρ1 (lnIx L))))) := q
            intro v F' H' s2 I' rr
            cases eb : backs L os (ρ1.map (Sl.cutC ρ1 (lnIx L))) with
            | none => rw [eb] at q; exact q.elim
            | some ρ2 =>
              rw [eb] at q
              obtain ⟨I2, ats⟩ := back s2 I' eb
              cases r with
              | im d => exact q v F' H' (s1.trans s2) I2 rr
              | fr d => exact q v F' H' (s1.trans s2) I2 trivial
              | bo k π =>
                have q : EPost T W F σ τ Φ Q (resL π ρ2 L[k]?) := q
                cases ek : L[k]? with
                | none => rw [ek] at q; exact q.elim
                | some x =>
                  obtain ⟨s0, l0⟩ := x
                  rw [ek] at q
                  cases l0 with
                  | none => exact q.elim
                  | some iπ =>
                    obtain ⟨i, π'⟩ := iπ
                    obtain ⟨l, hl, rfl, rfl, hw⟩ := ll.at ek
                    obtain ⟨u, hu, a⟩ := rr
                    rw [List.getElem?_map, hw] at hu
                    cases hu
                    have ok := ll.mem.1 l hl
                    exact q v F' H' (s1.trans s2) I2 ⟨l.u, ok.va, (ats l hl).app a⟩
      · rw [if_neg nd] at q; exact q.elim
def mCall (m : DM) (ma : MA) : ME := fun ρ => aBind (ma ρ) fun rs ρ' => callR m ρ' rs
/-- what is given when an argument is left out -/
def aDef (ds : List Py) (k : List Rv → Rho → ER) : List Rv → Rho → ER := fun rs ρ => k (rs ++ ds.map .im) ρ
def mCallD (m : DM) (ds : List Py) (ma : MA) : ME := fun ρ => aBind (ma ρ) fun rs ρ' => callR m ρ' (rs ++ ds.map .im)
inductive Dfl (T : Tb) : List V → List Py → Prop
  | nil : Dfl T [] []
  | cons {v : V} {d : Py} {vs : List V} {ds : List Py} : (∀ F, Rep T F v d) → Dfl T vs ds → Dfl T (v :: vs) (d :: ds)
theorem RRL.dflN {σ : List (Option V)} : ∀ {dvs : List V} {ds : List Py}, Dfl T dvs ds → RRL T F H σ dvs (ds.map .im)
  | _, _, .nil => .nil
  | _, _, .cons h t => .cons (h F) (RRL.dflN t)
theorem RRL.app {σ : List (Option V)} {vs ws : List V} {rs ss : List Rv} (h : RRL T F H σ vs rs) (k : RRL T F H σ ws ss) : RRL T F H σ (vs ++ ws) (rs ++ ss) := by
  induction h with
  | nil => exact k
  | cons a _ ih => exact .cons a ih
theorem rtsL_im : ∀ {dvs : List V} {ds : List Py}, Dfl T dvs ds → rtsL dvs (ds.map .im) = []
  | _, _, .nil => rfl
  | _, _, .cons _ t => by have h := rtsL_im t; exact h
theorem rtsL_app : ∀ {vs ws : List V} {rs ss : List Rv}, vs.length = rs.length → rtsL (vs ++ ws) (rs ++ ss) = rtsL vs rs ++ rtsL ws ss
  | [], _, [], _, _ => rfl
  | v :: vs, ws, r :: rs, ss, h => by
    show r.rts v ++ rtsL (vs ++ ws) (rs ++ ss) = (r.rts v ++ rtsL vs rs) ++ rtsL ws ss
    rw [rtsL_app (Nat.succ.inj h), List.append_assoc]
theorem RRL.len {σ : List (Option V)} {vs : List V} {rs : List Rv} (h : RRL T F H σ vs rs) : vs.length = rs.length := by
  induction h with
  | nil => rfl
  | cons _ _ ih => rw [List.length_cons, List.length_cons, ih]
theorem se_callS [NoSg T] {m : DM} {ta : TA} {ma : MA} {E : L2.St → XK} (hE : ∀ c d σ H', W c d σ H' → E σ c d H') (h : SA T W n ta ma) : SE T W n (tCallS (spM T m) E ta) (mCall m ma) := fun F H σ τ ρ Φ Q hn I q =>
  sa_then h hn I q fun vs rs ρ1 F1 H1 s I1 rr q1 => call_core (fun c d H' => hE c d σ H') I1 rr q1
theorem call_dfl [NoSg T] {σ τ : List (Option V)} {m : DM} {rs : List Rv} {vs : List V} {dvs : List V} {ds : List Py} {E : XK} (hE : ∀ c d H', W c d σ H' → E c d H') (hd : Dfl T dvs ds) (I : En T F (σ ++ τ) ρ Φ (rtsL vs rs) H) (h : RRL T F H (σ ++ τ) vs rs) (q : EPost T W F σ τ Φ Q (callR m ρ (rs ++ ds.map .im))) : spM T m (vs ++ dvs) H Q E :=
  call_core hE (by rw [rtsL_app h.len, rtsL_im hd, List.append_nil]; exact I) (h.app (RRL.dflN hd)) q
theorem se_callSD [NoSg T] {m : DM} {ta : TA} {ma : MA} {dvs : List V} {ds : List Py} {E : L2.St → XK} (hE : ∀ c d σ H', W c d σ H' → E σ c d H') (hd : Dfl T dvs ds) (h : SA T W n ta ma) : SE T W n (tCallSD (spM T m) dvs E ta) (mCallD m ds ma) := fun F H σ τ ρ Φ Q hn I q =>
  sa_then h hn I q fun vs rs ρ1 F1 H1 s I1 rr q1 => call_dfl (fun c d H' => hE c d σ H') hd I1 rr q1
theorem se_call [NoSg T] {m : DM} {ta : TA} {ma : MA} {dvs : List V} {ds : List Py} {E : XK} (hE : ∀ c d σ H', W c d σ H' → E c d H') (hd : Dfl T dvs ds) (h : SA T W n ta ma) : SE T W n (tCall (spM T m) dvs E ta) (mCallD m ds ma) := fun F H σ τ ρ Φ Q hn I q =>
  sa_then h hn I q fun vs rs ρ1 F1 H1 s I1 rr q1 => call_dfl (fun c d H' => hE c d σ H') hd I1 rr q1
end
end Mr
/-! Dp: the items of a value are read -/
namespace Mr
open PySem L2

def Py.its : Py → List Py
  | .scr l => l
  | d => d.kids
def Py.hasV : Py → Bool
  | .tup _ => true
  | .lst _ => true
  | .scr _ => true
  | .dic _ _ _ => true
  | .dit _ _ _ => true
  | .obj _ _ _ => true
  | _ => false
/-- the items of what stands for the data -/
def Vw (T : Tb) (H : Hp) (v : V) (xs : List V) : Py → Prop
  | .tup _ => ∃ a, v = .ref a ∧ SqT T.K H a xs
  | .lst _ => ∃ a, v = .ref a ∧ H a = some (.lst xs)
  | .scr _ => ∃ a, v = .ref a ∧ SqL T.K H a xs
  | .dic _ ks _ => ∃ a kvs, v = .ref a ∧ Rd H a (.dK kvs) ∧ (kvs.map (·.1) = ks ∧ ks.Nodup) ∧ kvs.map (·.2) = xs
  | .dit _ ks _ => ∃ a kvs, v = .ref a ∧ Rd H a (.dT kvs) ∧ (kvs.map (·.1) = ks ∧ ks.Nodup) ∧ kvs.map (·.2) = xs
  | .obj c ks _ => ∃ a dx fs, v = .ref a ∧ H a = some (.ins (T.cls c) dx fs) ∧ fs.map (·.1) = ks ∧ fs.map (·.2) = xs
  | _ => False
def Py.own (k : Py) : Bool := !k.imm && !k.isFz
/-- does it stay -/
def stays (ρ : Rho) : Rv → Bool
  | .im _ => true
  | .fr _ => false
  | .bo i _ => match ρ[i]? with
    | some (.im _ _) => true
    | _ => false
def kidO (n : Nat) (k : Py) : Rv → Rv
  | .im _ => .im k
  | .fr _ => .fr k
  | .bo i π => .bo i (π ++ [n])
def kidF (ρ : Rho) (r : Rv) (n : Nat) (k : Py) : Rv := if (k.own && !stays ρ r) = true then kidO n k r else .im k.unfz
section
variable {T : Tb} {W : Wx} {n : Nat} {F F1 F2 F' H H1 H2 H' : Hp} {Φ : Frm} {S : List (Option V)} {ρ ρ1 ρ2 : Rho} {X Y : Rts} {v w : V} {d k t : Py} {A B : List Addr} {xs : List V}
theorem rep_view (h : Rep T F v d) (fh : Sm F H) (hv : d.hasV = true) : ∃ xs, Vw T H v xs d ∧ RepL T F xs d.its := by
  cases h with
  | tup s r => exact ⟨_, ⟨_, rfl, sm_t fh s⟩, r⟩
  | lst s r => exact ⟨_, ⟨_, rfl, fh.plain s (fun z => z)⟩, r⟩
  | scr s r => exact ⟨_, ⟨_, rfl, sm_l fh s⟩, r⟩
  | dic s e r => exact ⟨_, ⟨_, _, rfl, fh.rd s, e, rfl⟩, r⟩
  | dit s e r => exact ⟨_, ⟨_, _, rfl, fh.rd s, e, rfl⟩, r⟩
  | obj s e r => exact ⟨_, ⟨_, _, _, rfl, fh.plain s (fun z => z), e, rfl⟩, r⟩
  | _ => cases hv
theorem tr_view (h : Tr T F H v d A) (fh : Sm F H) (hv : d.hasV = true) : ∃ xs, Vw T H v xs d ∧ ((RepL T F xs d.its ∧ d.imm = true) ∨ ∃ p o B, v = .ref p ∧ A = p :: B ∧ H p = some o ∧ kidsH o = xs ∧ TrL T F H xs d.its B) := by
  cases h with
  | leaf r i =>
    obtain ⟨xs, h1, h2⟩ := rep_view r fh hv
    exact ⟨xs, h1, .inl ⟨h2, i⟩⟩
  | fz _ => cases hv
  | node hp s i r =>
    refine ⟨_, ?_, .inr ⟨_, _, _, rfl, rfl, hp, rfl, ?_⟩⟩
    · cases s with
      | tup => exact ⟨_, rfl, .inl (.inl hp)⟩
      | lst => exact ⟨_, rfl, hp⟩
      | dic e => exact ⟨_, _, rfl, .inl hp, e, rfl⟩
      | dit e => exact ⟨_, _, rfl, .inl hp, e, rfl⟩
      | dicL e => exact ⟨_, _, rfl, .inr ⟨_, hp⟩, e, rfl⟩
      | ditL e => exact ⟨_, _, rfl, .inr ⟨_, hp⟩, e, rfl⟩
      | obj e => exact ⟨_, _, _, rfl, hp, e, rfl⟩
    · cases s <;> exact r
theorem tr_unown (h : Tr T F H w k B) (o : k.own = false) : Rep T F w k.unfz := by
  cases h with
  | leaf r _ => exact r.unfz
  | fz r => exact r.unfz
  | node _ s i _ =>
    unfold Py.own at o
    rw [i] at o
    cases s <;> cases o
theorem kidF_im {r : Rv} {n : Nat} (h : (k.own && !stays ρ r) = false) : kidF ρ r n k = .im k.unfz := by unfold kidF; rw [h]; rfl
theorem imm_own (h : k.imm = true) : k.own = false := by unfold Py.own; rw [h]; rfl
theorem repL_kid {ds : List Py} {n : Nat} (h : RepL T F xs ds) (e : ds[n]? = some k) : ∃ w, xs[n]? = some w ∧ Rep T F w k.unfz := by
  obtain ⟨w, h1, h2⟩ := h.get e
  exact ⟨w, h1, h2.unfz⟩
/-- the items of a value, and what each gives -/
theorem view_ok {r : Rv} (I : En T F S ρ Φ (r.rts v ++ X) H) (h : RR T F H S v r) (e : datR ρ r = some d) (hv : d.hasV = true) :
    ∃ xs, Vw T H v xs d ∧ xs.length = d.its.length ∧ ∀ n k, d.its[n]? = some k → ∃ w, xs[n]? = some w ∧ En T F S ρ Φ ((kidF ρ r n k).rts w ++ X) H ∧ RR T F H S w (kidF ρ r n k) := by
  have im : ∀ {xs : List V}, stays ρ r = true ∨ d.imm = true → Vw T H v xs d → RepL T F xs d.its → ∃ xs, Vw T H v xs d ∧ xs.length = d.its.length ∧ ∀ n k, d.its[n]? = some k → ∃ w, xs[n]? = some w ∧ En T F S ρ Φ ((kidF ρ r n k).rts w ++ X) H ∧ RR T F H S w (kidF ρ r n k) := fun {xs} st h1 h2 =>
    ⟨xs, h1, h2.length, fun n k en => by
      obtain ⟨w, z1, z2⟩ := repL_kid h2 en
      have ek : (k.own && !stays ρ r) = false := by
        rcases st with st | st
        · rw [st]; cases k.own <;> rfl
        · have : k.imm = true := by
            cases d <;> first | cases hv | skip
            · exact imm_kid (d := .tup _) st en
            all_goals cases st
          rw [imm_own this]; rfl
      rw [kidF_im ek]
      exact ⟨w, z1, I.dropX, z2⟩⟩
  cases r with
  | im d' =>
    cases e
    obtain ⟨xs, h1, h2⟩ := rep_view h I.fh hv
    exact im (.inl rfl) h1 h2
  | fr d' =>
    cases e
    obtain ⟨A, q, nd, f⟩ := I.rt
    cases q with
    | cons tr q =>
      rename_i A B
      obtain ⟨xs, h1, h2⟩ := tr_view tr I.fh hv
      rcases h2 with ⟨h2, hi⟩ | ⟨p, o, C, rfl, rfl, hp, hk, tl⟩
      · exact im (.inr hi) h1 h2
      · refine ⟨xs, h1, tl.length, fun n k en => ?_⟩
        obtain ⟨w, D, pre, post, z1, z2, z3, _⟩ := tl.at en
        refine ⟨w, z1, ?_⟩
        cases ow : (k.own && !stays ρ (.fr d)) with
        | false =>
          rw [kidF_im ow]
          exact ⟨I.dropX, tr_unown z3 (by simpa [stays] using ow)⟩
        | true =>
          have ek : kidF ρ (.fr d) n k = .fr k := by unfold kidF; rw [ow]; rfl
          rw [ek]
          refine ⟨⟨I.fh, I.lo, I.len, I.sg, I.ph, I.sl, ⟨D ++ B, .cons z3 q, ?_, fun a ha => f a ?_⟩, I.io, I.lk, I.lkx⟩, trivial⟩
          · rw [z2] at nd
            have sb : Sub (D ++ B) ((p :: (pre ++ (D ++ post))) ++ B) := Sub.app ⟨p :: (pre ++ post), by
              refine List.perm_middle.trans (List.Perm.cons _ ?_)
              rw [← List.append_assoc, ← List.append_assoc]
              exact List.Perm.append_right post List.perm_append_comm⟩ (Sub.refl B)
            exact sb.nodup nd
          · rcases List.mem_append.mp ha with z | z
            · rw [z2]
              exact List.mem_append_left _ (List.mem_cons_of_mem _ (List.mem_append_right _ (List.mem_append_left _ z)))
            · exact List.mem_append_right _ z
  | bo i π =>
    obtain ⟨e0, hd⟩ := datR_dat e
    have e0 : datP ρ i π = some d := e0
    obtain ⟨u, hu, a⟩ := h
    unfold datP at e0
    cases hs : ρ[i]? with
    | none => rw [hs] at e0; cases e0
    | some s =>
      rw [hs] at e0
      cases s with
      | no => cases e0
      | al _ _ => cases e0
      | im io t =>
        have e0 : (if π = [] then some t else none) = some d := e0
        by_cases hp : π = []
        · rw [if_pos hp] at e0
          cases e0
          subst hp
          cases a
          obtain ⟨w, q1, q2⟩ := I.sl i _ hs
          rw [hu] at q1
          cases q1
          obtain ⟨xs, h1, h2⟩ := rep_view q2 I.fh hv
          exact im (.inl (by show (match ρ[i]? with | some (.im _ _) => true | _ => false) = true; rw [hs])) h1 h2
        · rw [if_neg hp] at e0; cases e0
      | ow io t =>
        have st : stays ρ (.bo i π) = false := by show (match ρ[i]? with | some (.im _ _) => true | _ => false) = false; rw [hs]
        obtain ⟨A, tr⟩ := En.slot I hs hu
        have hp : π = [] ∨ d.imm = false := by
          rcases hd with z | z
          · exact .inr z
          · cases π with
            | nil => exact .inl rfl
            | cons n π => exact absurd rfl (z i n π)
        obtain ⟨B, _, _, _, t2⟩ := tr.getP I.fh e0 a hp
        obtain ⟨xs, h1, h2⟩ := tr_view t2 I.fh hv
        rcases h2 with ⟨h2, hi⟩ | ⟨p, o, C, rfl, rfl, hp, hk, tl⟩
        · exact im (.inr hi) h1 h2
        · refine ⟨xs, h1, tl.length, fun n k en => ?_⟩
          obtain ⟨w, D, pre, post, z1, z2, z3, _⟩ := tl.at en
          refine ⟨w, z1, ?_⟩
          cases ow : (k.own && !stays ρ (.bo i π)) with
          | false =>
            rw [kidF_im ow]
            exact ⟨I, tr_unown z3 (by rw [st] at ow; simpa using ow)⟩
          | true =>
            have ek : kidF ρ (.bo i π) n k = .bo i (π ++ [n]) := by unfold kidF; rw [ow]; rfl
            rw [ek]
            exact ⟨I, u, hu, At.snoc hp (by rw [hk]; exact z1) a⟩

/-! ### where an item stands -/
def ixOf {α : Type} [DecidableEq α] : List α → α → Option Nat
  | [], _ => none
  | a :: l, k => if a = k then some 0 else (ixOf l k).map (· + 1)
theorem ixOf_val {κ : Type} [DecidableEq κ] (k : κ) : ∀ (kvs : List (κ × V)), valV kvs k = (ixOf (kvs.map (·.1)) k).bind fun n => (kvs.map (·.2))[n]?
  | [] => rfl
  | kv :: kvs => by
    have ih := ixOf_val k kvs
    unfold valV at ih ⊢
    rw [List.find?_cons, List.map_cons]
    show _ = ((if kv.1 = k then some 0 else (ixOf (kvs.map (·.1)) k).map (· + 1)).bind _)
    by_cases h : kv.1 = k
    · rw [decide_eq_true h, if_pos h]; rfl
    · rw [decide_eq_false h, if_neg h]
      show Option.map _ (List.find? _ kvs) = _
      rw [ih]
      cases ixOf (kvs.map (·.1)) k <;> rfl
theorem ixOf_look (k : Str) : ∀ (kvs : List (Str × V)), kvs.lookup k = (ixOf (kvs.map (·.1)) k).bind fun n => (kvs.map (·.2))[n]?
  | [] => rfl
  | kv :: kvs => by
    have ih := ixOf_look k kvs
    rw [List.lookup_cons, List.map_cons]
    show _ = ((if kv.1 = k then some 0 else (ixOf (kvs.map (·.1)) k).map (· + 1)).bind _)
    by_cases h : kv.1 = k
    · subst h
      rw [beq_self_eq_true, if_pos rfl]; rfl
    · rw [beq_eq_false_iff_ne.mpr (fun z => h z.symm), if_neg h]
      show kvs.lookup k = _
      rw [ih]
      cases ixOf (kvs.map (·.1)) k <;> rfl
def Py.key : Py → Option Key
  | .int i => some (.inl i)
  | .str x => some (.inr x)
  | _ => none
theorem Rep.key {x : V} {e : Py} {k : Key} (h : Rep T F x e) (q : e.key = some k) : x = kV k := by
  cases h <;> cases q <;> rfl
end
end Mr
/-! Dp: an item of a list, of a text, of a dict; an attribute -/
namespace Mr
open PySem L2 PyProof.Rows

def rDct : R2 := fun x y H Q => ∃ a v, x = .ref a ∧ DGet H a y (some v) ∧ Q v H
theorem ix_dict {X : Cx} (hu : X.A.units + 1 < cLine) : IxR X rDct := by
  intro value slice pins s σ H x y v u Q I rx ry h hs
  obtain ⟨a, w, rfl, g, q⟩ := h
  obtain rfl : v = Value.ref a := rx
  exact tail_any (dict_typeIs I g) PySem.F.slot_dict_getitem.lookup (d_getItem hu I g ry fun w' s' I' rw' => ⟨w, H, I', rw', q⟩) hs
def rIxA (K : PySem.W.Frag) : R2 := fun x y H Q => rIx K x y H Q ∨ rDct x y H Q
theorem ix_all {X : Cx} (hu : X.A.units + 1 < cLine) : IxR X (rIxA X.K) := IxR.or ix_seq (ix_dict hu)

def ixK (ks : List Key) : Option Key → Option Nat
  | some k => ixOf ks k
  | none => none
def ixD : Py → Py → Option Nat
  | .lst l, .int i => ixN l.length i
  | .tup l, .int i => ixN l.length i
  | .scr l, .int i => ixN l.length i
  | .dic _ ks _, e => ixK ks e.key
  | _, _ => none
def kidAt2 (ρ : Rho) (r : Rv) (n : Nat) : Option Py → ER
  | some k => .ok (kidF ρ r n k) ρ
  | none => .st
def kidAt (ρ : Rho) (r : Rv) (d : Py) : Option Nat → ER
  | some n => kidAt2 ρ r n d.its[n]?
  | none => .st
def ixS (ρ : Rho) (z : Str) : Py → ER
  | .int i => if z.length ≤ sizeLine then (match atI z.cps.toList i with
    | some c => .ok (.im (.str ⟨#[c]⟩)) ρ
    | none => .st) else .st
  | _ => .st
def ix3 (ρ : Rho) (r : Rv) (e : Py) : Py → ER
  | .str z => ixS ρ z e
  | d => kidAt ρ r d (ixD d e)
def ix2 (ρ : Rho) (r : Rv) : Option Py → Option Py → ER
  | some d, some e => ix3 ρ r e d
  | _, _ => .st
def mIx (ma mb : ME) : ME := fun ρ => (ma ρ).bind fun x ρ1 => pend x mb ρ1 fun x y ρ2 => ix2 ρ2 x (datR ρ2 x) (datR ρ2 y)
/-- e.f; okc: the classes whose attribute it may be -/
def fld2 (f : Str) (okc : Nat → Bool) (ρ : Rho) (r : Rv) : Option Py → ER
  | some (.obj c ks vs) => if okc c = true then kidAt ρ r (.obj c ks vs) (ixOf ks f) else .st
  | _ => .st
def mFld (f : Str) (okc : Nat → Bool) (ma : ME) : ME := fun ρ => (ma ρ).bind fun x ρ1 => fld2 f okc ρ1 x (datR ρ1 x)

section
variable {T : Tb} {W : Wx} {n : Nat} {F F1 F2 F' H H1 H2 H' : Hp} {Φ : Frm} {S σ τ : List (Option V)} {ρ ρ1 ρ2 : Rho} {X Y : Rts} {v w : V} {d k t : Py} {A B : List Addr} {xs : List V} {Q : VK}
theorem En.keepL (I : En T F S ρ Φ (X ++ Y) H) : En T F S ρ Φ X H := (I.permX List.perm_append_comm).dropX
theorem Rep.int_eq {x : V} {i : Int} (h : Rep T F x (.int i)) : x = .int i := by cases h; rfl
theorem Rep.str_eq {x : V} {i : Str} (h : Rep T F x (.str i)) : x = .str i := by cases h; rfl
/-- an item, taken -/
theorem kid_get {r r' : Rv} (I : En T F S ρ Φ (r.rts v ++ X) H) (h : RR T F H S v r) (e : datR ρ r = some d) (hv : d.hasV = true) {o : Option Nat} (q : kidAt ρ r d o = .ok r' ρ1) :
    ∃ xs n w, o = some n ∧ Vw T H v xs d ∧ xs.length = d.its.length ∧ xs[n]? = some w ∧ ρ1 = ρ ∧ En T F S ρ Φ (r'.rts w ++ X) H ∧ RR T F H S w r' := by
  cases o with
  | none => cases q
  | some n =>
    obtain ⟨xs, h1, h2, h3⟩ := view_ok I h e hv
    have q : kidAt2 ρ r n d.its[n]? = .ok r' ρ1 := q
    cases hk : d.its[n]? with
    | none => rw [hk] at q; cases q
    | some k =>
      rw [hk] at q
      cases q
      obtain ⟨w, w1, w2, w3⟩ := h3 n k hk
      exact ⟨xs, n, w, rfl, h1, h2, w1, rfl, w2, w3⟩
theorem kid_ok {r : Rv} {o : Option Nat} : (∃ r', kidAt ρ r d o = .ok r' ρ) ∨ kidAt ρ r d o = .st := by
  cases o with
  | none => exact .inr rfl
  | some n =>
    show (∃ r', kidAt2 ρ r n d.its[n]? = .ok r' ρ) ∨ kidAt2 ρ r n d.its[n]? = .st
    cases d.its[n]? with
    | none => exact .inr rfl
    | some k => exact .inl ⟨_, rfl⟩
theorem kid_then {r : Rv} (I : En T F (σ ++ τ) ρ Φ (r.rts v ++ X) H) (h : RR T F H (σ ++ τ) v r) (e : datR ρ r = some d) (hv : d.hasV = true) {o : Option Nat} (q : EPost T W F σ τ Φ Q (kidAt ρ r d o)) :
    ∃ xs n w, o = some n ∧ Vw T H v xs d ∧ xs.length = d.its.length ∧ xs[n]? = some w ∧ Q w H := by
  rcases kid_ok (ρ := ρ) (r := r) (d := d) (o := o) with ⟨r', z⟩ | z
  · obtain ⟨xs, n, w, h1, h2, h3, h4, _, h5, h6⟩ := kid_get I h e hv z
    rw [z] at q
    exact ⟨xs, n, w, h1, h2, h3, h4, q w F H (Same.refl F) h5.keepL h6⟩
  · rw [z] at q; exact q.elim
theorem atI_of {α : Type} {xs : List α} {i : Int} {m n : Nat} {v : α} (hm : xs.length = m) (e : ixN m i = some n) (h : xs[n]? = some v) : atI xs i = some v := by
  unfold atI
  rw [hm, e]; exact h
theorem val_of {kvs : List (Key × V)} {ks : List Key} {xs : List V} {k : Key} {n : Nat} {w : V} (h1 : kvs.map (·.1) = ks) (h2 : kvs.map (·.2) = xs) (e : ixOf ks k = some n) (h : xs[n]? = some w) : valV kvs k = some w := by
  rw [ixOf_val, h1, h2, e]; exact h
theorem ix_get {r r' : Rv} (I : En T F S ρ Φ (r.rts v ++ X) H) (h : RR T F H S v r) (e : datR ρ r = some d) {y : V} {ey : Py} (hy : Rep T H y ey) (q : ix3 ρ r ey d = .ok r' ρ1) (hQ : ∀ w, En T F S ρ Φ (r'.rts w ++ X) H → RR T F H S w r' → Q w H) : rIxA T.K v y H Q ∧ ρ1 = ρ := by
  cases d with
  | str z =>
    have hx := h.readR I e
    have q : ixS ρ z ey = .ok r' ρ1 := q
    cases ey with
    | int i =>
      have q : (if z.length ≤ sizeLine then (match atI z.cps.toList i with | some c => .ok (.im (.str ⟨#[c]⟩)) ρ | none => .st) else .st) = ER.ok r' ρ1 := q
      by_cases hz : z.length ≤ sizeLine
      · rw [if_pos hz] at q
        cases hc : atI z.cps.toList i with
        | none => rw [hc] at q; cases q
        | some c =>
          rw [hc] at q
          cases q
          exact ⟨.inl (.inr (.inr ⟨z, i, c, hx.str_eq, hy.int_eq, hz, hc, hQ _ I.dropX (.str _)⟩)), rfl⟩
      · rw [if_neg hz] at q; cases q
    | _ => cases q
  | lst l =>
    have q : kidAt ρ r (.lst l) (ixD (.lst l) ey) = .ok r' ρ1 := q
    obtain ⟨xs, n, w, z1, ⟨a, z2, z3⟩, z4, z5, z6, z7, z8⟩ := kid_get I h e rfl q
    cases ey with
    | int i => exact ⟨.inl (.inl ⟨a, xs, i, w, z2, hy.int_eq, .inl (.inl z3), atI_of z4 z1 z5, hQ w z7 z8⟩), z6⟩
    | _ => cases z1
  | tup l =>
    have q : kidAt ρ r (.tup l) (ixD (.tup l) ey) = .ok r' ρ1 := q
    obtain ⟨xs, n, w, z1, ⟨a, z2, z3⟩, z4, z5, z6, z7, z8⟩ := kid_get I h e rfl q
    cases ey with
    | int i => exact ⟨.inl (.inr (.inl ⟨a, xs, i, w, z2, hy.int_eq, z3, atI_of z4 z1 z5, hQ w z7 z8⟩)), z6⟩
    | _ => cases z1
  | scr l =>
    have q : kidAt ρ r (.scr l) (ixD (.scr l) ey) = .ok r' ρ1 := q
    obtain ⟨xs, n, w, z1, ⟨a, z2, z3⟩, z4, z5, z6, z7, z8⟩ := kid_get I h e rfl q
    cases ey with
    | int i => exact ⟨.inl (.inl ⟨a, xs, i, w, z2, hy.int_eq, z3, atI_of z4 z1 z5, hQ w z7 z8⟩), z6⟩
    | _ => cases z1
  | dic lk ks vs =>
    have q : kidAt ρ r (.dic lk ks vs) (ixK ks ey.key) = .ok r' ρ1 := q
    obtain ⟨xs, n, w, z1, ⟨a, kvs, z2, z3, ⟨y1, _⟩, y2⟩, z4, z5, z6, z7, z8⟩ := kid_get I h e rfl q
    cases hk : ey.key with
    | none => rw [hk] at z1; cases z1
    | some k =>
      rw [hk] at z1
      exact ⟨.inr ⟨a, w, z2, .inl ⟨kvs, k, z3, hy.key hk, (val_of y1 y2 z1 z5).symm⟩, hQ w z7 z8⟩, z6⟩
  | dit lk ks vs =>
    have q : kidAt ρ r (.dit lk ks vs) none = .ok r' ρ1 := by cases ey <;> exact q
    cases q
  | obj c ks vs =>
    have q : kidAt ρ r (.obj c ks vs) none = .ok r' ρ1 := by cases ey <;> exact q
    cases q
  | _ =>
    cases ey <;> cases q
theorem ix_okst {r : Rv} {e : Py} : (∃ r', ix3 ρ r e d = .ok r' ρ) ∨ ix3 ρ r e d = .st := by
  cases d with
  | str z =>
    show (∃ r', ixS ρ z e = .ok r' ρ) ∨ ixS ρ z e = .st
    cases e with
    | int i =>
      show (∃ r', (if z.length ≤ sizeLine then (match atI z.cps.toList i with | some c => .ok (.im (.str ⟨#[c]⟩)) ρ | none => .st) else .st) = ER.ok r' ρ) ∨ (if z.length ≤ sizeLine then (match atI z.cps.toList i with | some c => .ok (.im (.str ⟨#[c]⟩)) ρ | none => .st) else .st) = ER.st
      split
      · cases atI z.cps.toList i with
        | none => exact .inr rfl
        | some c => exact .inl ⟨_, rfl⟩
      · exact .inr rfl
    | _ => exact .inr rfl
  | _ => first | exact kid_ok | (cases e <;> exact .inr rfl)
theorem ix_core {r : Rv} (I : En T F (σ ++ τ) ρ Φ (r.rts v ++ X) H) (h : RR T F H (σ ++ τ) v r) (e : datR ρ r = some d) {y : V} {ey : Py} (hy : Rep T H y ey) (q : EPost T W F σ τ Φ Q (ix3 ρ r ey d)) : rIxA T.K v y H Q := by
  rcases ix_okst (ρ := ρ) (r := r) (d := d) (e := ey) with ⟨r', z⟩ | z
  · refine (ix_get I h e hy z fun w I1 r1 => ?_).1
    rw [z] at q
    exact q w F H (Same.refl F) I1.keepL r1
  · rw [z] at q; exact q.elim
/-- a[b] -/
theorem se_ix {ta tb : TE} {ma mb : ME} (ha : SE T W n ta ma) (hb : SE T W n tb mb) : SE T W n (tOp (rIxA T.K) ta tb) (mIx ma mb) := fun F H σ τ ρ Φ Q hn I q => by
  refine se_then ha hn I q fun v x ρ1 F1 H1 s1 I1 r1 q1 => ?_
  refine pend_then hb hn I1 r1 q1 fun w x' y ρ2 F2 H2 s2 I2 r2 r3 q2 => ?_
  cases hx : datR ρ2 x' with
  | none => rw [hx] at q2; exact q2.elim
  | some d =>
    cases hy : datR ρ2 y with
    | none => rw [hx, hy] at q2; exact q2.elim
    | some e =>
      rw [hx, hy] at q2
      exact ix_core I2 r2 hx (r3.readR (I2.permX List.perm_append_comm) hy) q2
/-- a.f -/
theorem se_fld {f : Str} {okc : Nat → Bool} {ta : TE} {ma : ME} (hc : ∀ c, okc c = true → Cls T.K (T.cls c) ∧ NoAttr T.K (T.cls c) f) (ha : SE T W n ta ma) : SE T W n (tFld T.K ta f) (mFld f okc ma) := fun F H σ τ ρ Φ Q hn I q => by
  refine se_then ha hn I q fun v x ρ1 F1 H1 s1 I1 r1 q1 => ?_
  cases hx : datR ρ1 x with
  | none => rw [hx] at q1; exact q1.elim
  | some d =>
    rw [hx] at q1
    cases d with
    | obj c ks vs =>
      have q1 : EPost T W F1 σ τ Φ Q (if okc c = true then kidAt ρ1 x (.obj c ks vs) (ixOf ks f) else .st) := q1
      by_cases hk : okc c = true
      · rw [if_pos hk] at q1
        obtain ⟨xs, m, w, z1, ⟨a, dx, fs, z2, z3, y1, y2⟩, z4, z5, z6⟩ := kid_then (X := []) (by rw [List.append_nil]; exact I1) r1 hx rfl q1
        obtain ⟨c1, c2⟩ := hc c hk
        exact ⟨a, _, dx, fs, w, z2, z3, c1, c2, by rw [ixOf_look, y1, y2, z1]; exact z5, z6⟩
      · rw [if_neg hk] at q1; exact q1.elim
    | _ => exact q1.elim

/-! ### a key of a dict -/
def din1 (f : Bool → Bool) (ρ : Rho) : Option Py → Option Py → ER
  | some e, some (.dic _ ks _) => (match e.key with
    | some k => .ok (.im (.bl (f (ixOf ks k).isSome))) ρ
    | none => .st)
  | _, _ => .st
def mDIn (f : Bool → Bool) (my md : ME) : ME := fun ρ => (my ρ).bind fun y ρ1 => pend y md ρ1 fun y x ρ2 => din1 f ρ2 (datR ρ2 y) (datR ρ2 x)
theorem ixOf_isSome {kvs : List (Key × V)} {ks : List Key} {k : Key} (h : kvs.map (·.1) = ks) : (valV kvs k).isSome = (ixOf ks k).isSome := by
  rw [ixOf_val, h]
  have hl : ks.length = (kvs.map (·.2)).length := by rw [← h, List.length_map, List.length_map]
  cases e : ixOf ks k with
  | none => rfl
  | some n =>
    have lt : ∀ {l : List Key} {n : Nat}, ixOf l k = some n → n < l.length := fun {l} => by
      induction l with
      | nil => exact fun {n} e => by cases e
      | cons a l ih =>
        intro n e
        have e : (if a = k then some 0 else (ixOf l k).map (· + 1)) = some n := e
        by_cases ha : a = k
        · rw [if_pos ha] at e; cases e; exact Nat.succ_pos _
        · rw [if_neg ha] at e
          cases e2 : ixOf l k with
          | none => rw [e2] at e; cases e
          | some m => rw [e2] at e; cases e; exact Nat.succ_lt_succ (ih e2)
    have := lt e
    show ((kvs.map (·.2))[n]?).isSome = true
    rw [List.getElem?_eq_getElem (by omega)]; rfl
theorem din_core {f : Bool → Bool} {y x : V} {ry rx : Rv} (I : En T F (σ ++ τ) ρ Φ (ry.rts y ++ rx.rts x) H) (h1 : RR T F H (σ ++ τ) y ry) (h2 : RR T F H (σ ++ τ) x rx) (q : EPost T W F σ τ Φ Q (din1 f ρ (datR ρ ry) (datR ρ rx))) : ∃ a o, x = .ref a ∧ DGet H a y o ∧ Q (.bl (f o.isSome)) H := by
  cases hy : datR ρ ry with
  | none => rw [hy] at q; exact q.elim
  | some e =>
    cases hx : datR ρ rx with
    | none => rw [hy, hx] at q; exact q.elim
    | some d =>
      rw [hy, hx] at q
      cases d with
      | dic lk ks vs =>
        have q : EPost T W F σ τ Φ Q (match e.key with | some k => .ok (.im (.bl (f (ixOf ks k).isSome))) ρ | none => .st) := q
        cases hk : e.key with
        | none => rw [hk] at q; exact q.elim
        | some k =>
          rw [hk] at q
          have ry := (h1.readR I hy).key hk
          obtain ⟨xs, ⟨a, kvs, z1, z2, ⟨z3, _⟩, z4⟩, _⟩ := view_ok (I.permX List.perm_append_comm) h2 hx rfl
          refine ⟨a, valV kvs k, z1, .inl ⟨kvs, k, z2, ry, rfl⟩, ?_⟩
          rw [ixOf_isSome z3]
          exact q _ F H (Same.refl F) I.dropAll (.bl _)
      | _ => exact q.elim
theorem se_din {ty td : TE} {my md : ME} (hy : SE T W n ty my) (hd : SE T W n td md) : SE T W n (tDIn ty td) (mDIn (fun b => b) my md) := fun F H σ τ ρ Φ Q hn I q => by
  refine se_then hy hn I q fun v x ρ1 F1 H1 s1 I1 r1 q1 => ?_
  exact pend_then hd hn I1 r1 q1 fun w x' y ρ2 F2 H2 s2 I2 r2 r3 q2 => din_core I2 r2 r3 q2
theorem se_dnotin {ty td : TE} {my md : ME} (hy : SE T W n ty my) (hd : SE T W n td md) : SE T W n (tDNotIn ty td) (mDIn (fun b => !b) my md) := fun F H σ τ ρ Φ Q hn I q => by
  refine se_then hy hn I q fun v x ρ1 F1 H1 s1 I1 r1 q1 => ?_
  exact pend_then hd hn I1 r1 q1 fun w x' y ρ2 F2 H2 s2 I2 r2 r3 q2 => din_core I2 r2 r3 q2
/-! ### d.get -/
def isDD : Option Py → Bool
  | some (.dic _ _ _) => true
  | _ => false
def getK (ρ : Rho) (x : Rv) (d : Py) (z : ER) : Option Nat → ER
  | some n => kidAt ρ x d (some n)
  | none => z
def get1 (ρ : Rho) (x : Rv) (z : ER) : Option Py → Option Py → ER
  | some (.dic lk ks vs), some e => (match e.key with
    | some k => getK ρ x (.dic lk ks vs) z (ixOf ks k)
    | none => .st)
  | _, _ => .st
def mDGet1 (md my : ME) : ME := fun ρ => (md ρ).bind fun x ρ1 => if isDD (datR ρ1 x) = true then pend x my ρ1 fun x y ρ2 => get1 ρ2 x (.ok (.im .non) ρ2) (datR ρ2 x) (datR ρ2 y) else .st
theorem isDD_ok {r : Rv} (I : En T F (σ ++ τ) ρ Φ (r.rts v) H) (h : RR T F H (σ ++ τ) v r) (e : isDD (datR ρ r) = true) : ∃ a, v = .ref a ∧ IsD H a := by
  cases hx : datR ρ r with
  | none => rw [hx] at e; cases e
  | some d =>
    rw [hx] at e
    cases d with
    | dic lk ks vs =>
      obtain ⟨xs, ⟨a, kvs, z1, z2, _⟩, _⟩ := view_ok (X := []) (by rw [List.append_nil]; exact I) h hx rfl
      exact ⟨a, z1, .inl ⟨kvs, z2⟩⟩
    | _ => cases e
theorem get_core {x y : V} {rx : Rv} {z : ER} {zv : V} (I : En T F (σ ++ τ) ρ Φ (rx.rts x ++ X) H) (h2 : RR T F H (σ ++ τ) x rx) {e : Option Py} (hy : ∀ e', e = some e' → Rep T H y e') (q : EPost T W F σ τ Φ Q (get1 ρ rx z (datR ρ rx) e)) (hz : EPost T W F σ τ Φ Q z → Q zv H) : ∀ a, x = .ref a → ∃ o, DGet H a y o ∧ Q (o.getD zv) H := by
  cases hx : datR ρ rx with
  | none => rw [hx] at q; exact q.elim
  | some d =>
    rw [hx] at q
    cases e with
    | none => cases d <;> exact q.elim
    | some e =>
      cases d with
      | dic lk ks vs =>
        have q : EPost T W F σ τ Φ Q (match e.key with | some k => getK ρ rx (.dic lk ks vs) z (ixOf ks k) | none => .st) := q
        cases hk : e.key with
        | none => rw [hk] at q; exact q.elim
        | some k =>
          rw [hk] at q
          have ry := (hy e rfl).key hk
          obtain ⟨xs, ⟨a, kvs, z1, z2, ⟨z3, _⟩, z4⟩, _⟩ := view_ok I h2 hx rfl
          intro a' ea
          rw [z1] at ea
          cases ea
          refine ⟨valV kvs k, .inl ⟨kvs, k, z2, ry, rfl⟩, ?_⟩
          have q : EPost T W F σ τ Φ Q (getK ρ rx (.dic lk ks vs) z (ixOf ks k)) := q
          cases ho : ixOf ks k with
          | none =>
            rw [ho] at q
            rw [ixOf_val, z3, ho]
            exact hz q
          | some n =>
            rw [ho] at q
            obtain ⟨xs', m, w, y1, ⟨a', kvs', y2, y3, ⟨y4, _⟩, y5⟩, _, y6, y7⟩ := kid_then I h2 hx rfl (o := some n) q
            cases y1
            rw [z1] at y2
            cases y2
            have ek : kvs = kvs' := by
              rcases z2 with z2 | ⟨_, z2⟩ <;> rcases y3 with y3 | ⟨_, y3⟩ <;> rw [z2] at y3 <;> cases y3 <;> rfl
            subst ek
            rw [val_of z3 y5 ho y6]
            exact y7
      | _ => exact q.elim
theorem se_dget1 {td ty : TE} {md my : ME} (hd : SE T W n td md) (hy : SE T W n ty my) : SE T W n (tDGet1 td ty) (mDGet1 md my) := fun F H σ τ ρ Φ Q hn I q => by
  refine se_then hd hn I q fun v x ρ1 F1 H1 s1 I1 r1 q1 => ?_
  by_cases hb : isDD (datR ρ1 x) = true
  · rw [if_pos hb] at q1
    obtain ⟨a, rfl, id⟩ := isDD_ok I1 r1 hb
    refine ⟨a, rfl, id, ?_⟩
    refine pend_then hy hn I1 r1 q1 fun w x' y ρ2 F2 H2 s2 I2 r2 r3 q2 => ?_
    exact get_core I2 r2 (fun e' z => r3.readR (I2.permX List.perm_append_comm) z) q2 (fun q => q .non F2 H2 (Same.refl _) I2.dropAll .non) a rfl
  · rw [if_neg hb] at q1; exact q1.elim
def mDGet2 (md my mx : ME) : ME := fun ρ => (md ρ).bind fun x ρ1 => if isDD (datR ρ1 x) = true then pend x my ρ1 fun x y ρ2 => (match y with
  | .im e => pend x mx ρ2 fun x z ρ3 => get1 ρ3 x (.ok z ρ3) (datR ρ3 x) (some e)
  | _ => .st) else .st
theorem se_dget2 {td ty tx : TE} {md my mx : ME} (hd : SE T W n td md) (hy : SE T W n ty my) (hx : SE T W n tx mx) : SE T W n (tDGet2 td ty tx) (mDGet2 md my mx) := fun F H σ τ ρ Φ Q hn I q => by
  refine se_then hd hn I q fun v x ρ1 F1 H1 s1 I1 r1 q1 => ?_
  by_cases hb : isDD (datR ρ1 x) = true
  · rw [if_pos hb] at q1
    obtain ⟨a, rfl, id⟩ := isDD_ok I1 r1 hb
    refine ⟨a, rfl, id, ?_⟩
    refine pend_then hy hn I1 r1 q1 fun w x' y ρ2 F2 H2 s2 I2 r2 r3 q2 => ?_
    cases y with
    | im e =>
      have I2 : En T F2 (σ ++ τ) ρ2 Φ (x'.rts (.ref a)) H2 := I2.keepL
      refine pend_then hx hn I2 r2 q2 fun u x3 z ρ3 F3 H3 s3 I3 r4 r5 q3 => ?_
      exact get_core I3 r4 (fun e' ee => by cases ee; exact (Rep.mono s3 r3).monoS I3.fh) q3 (fun q => q u F3 H3 (Same.refl _) I3.dropX r5) a rfl
    | _ => exact q2.elim
  · rw [if_neg hb] at q1; exact q1.elim
end
end Mr
/-! Dp: stores into lists, dicts, objects -/
namespace Mr
open PySem L2

def putL {α : Type} (l : List α) (n : Nat) (x : α) : List α := if n < l.length then l.set n x else l ++ [x]
def optE : Option Rho → ER
  | some ρ => .ok (.im .non) ρ
  | none => .st
def st3 (ρ : Rho) (i : Nat) (π : List Nat) (io : Bool) (t : Py) : Option (Nat × Py) → Option Rho
  | some (n, d') => if d'.imm = true then none else some (ρ.wr i π io t d' fun m => m != n)
  | none => none
def st2b (ρ : Rho) (i : Nat) (π : List Nat) (io : Bool) (t : Py) (g : Py → Option (Nat × Py)) : Option Py → Option Rho
  | some d => if d.mut = true then st3 ρ i π io t (g d) else none
  | none => none
def st2 (ρ : Rho) (i : Nat) (π : List Nat) (g : Py → Option (Nat × Py)) : Option Sl → Option Rho
  | some (.ow io t) => st2b ρ i π io t g (t.getP π)
  | _ => none
def st1 (x : Rv) (g : Py → Py → Option (Nat × Py)) : Option (Py × Rho) → Option Rho
  | some (k, ρ1) => (match x with
    | .bo i π => st2 ρ1 i π (g k) ρ1[i]?
    | _ => none)
  | none => none
/-- the value r is stored into what x is -/
def store (ρ : Rho) (x r : Rv) (g : Py → Py → Option (Nat × Py)) : Option Rho := st1 x g (itm ρ r)
/-- d[e] = k -/
def putSq (mk : List Py → Py) (l : List Py) (k : Py) : Option Nat → Option (Nat × Py)
  | some n => some (n, mk (l.set n k))
  | none => none
def putDc (ks : List Key) (vs : List Py) (k : Py) (q : Key) : Option Nat → Option (Nat × Py)
  | some n => some (n, .dic false ks (vs.set n k))
  | none => if ks.length < sizeLine then some (vs.length, .dic false (ks ++ [q]) (vs ++ [k])) else none
def putDk (ks : List Key) (vs : List Py) (k : Py) : Option Key → Option (Nat × Py)
  | some q => if ks.length < sizeLine then putDc ks vs k q (ixOf ks q) else none
  | none => none
def putIx (e k : Py) : Py → Option (Nat × Py)
  | .lst l => (match e with
    | .int i => putSq .lst l k (ixN l.length i)
    | _ => none)
  | .dic false ks vs => putDk ks vs k e.key
  | _ => none
/-- d.f = k -/
def putF1 (c : Nat) (ks : List Str) (vs : List Py) (f : Str) (k : Py) : Option Nat → Option (Nat × Py)
  | some n => some (n, .obj c ks (vs.set n k))
  | none => some (vs.length, .obj c (ks ++ [f]) (vs ++ [k]))
def putFd (f : Str) (okc : Nat → Bool) (k : Py) : Py → Option (Nat × Py)
  | .obj c ks vs => if (okc c && decide (ks.length < 1000)) = true then putF1 c ks vs f k (ixOf ks f) else none
  | _ => none
/-! ### arguments, then a statement's rest -/
def aThen1 (k : List Rv → Rho → SR) (ρ : Rho) : Option (List Rv) → SR
  | some l => k l ρ
  | none => .st
def aThen (x : AR) (k : List Rv → Rho → SR) : SR := match x with
  | .ok rs ρ => aThen1 k (ρ.frontK (nTp rs)) (rvs ρ (ρ.length - nTp rs) (ρ.length - nTp rs) rs)
  | .ex c w ρ => .ex c w ρ
  | .st => .st
/-- a variable whose data goes on -/
def mvR (i : Nat) (ρ : Rho) : Option Sl → ER
  | some (.ow false t) => if t.mut = true then .ok (.fr t) (ρ.set i .no) else varR i ρ ρ[i]?
  | s => varR i ρ s
def mMv (i : Nat) : ME := fun ρ => mvR i ρ ρ[i]?

section
variable {T : Tb} {W : Wx} {n : Nat} {F F1 F2 F' H H1 H2 H' : Hp} {Φ : Frm} {S τ : List (Option V)} {σ : L2.St} {ρ ρ1 ρ2 : Rho} {X Y : Rts} {v w : V} {d k t : Py} {A B : List Addr} {xs : List V} {Q : VK} {D : Ends}
theorem sas_then {ta : TA} {m : MA} (h : SA T W n ta m) (hn : σ.length = n) (I : En T F (σ ++ τ) ρ Φ [] H) {k : List Rv → Rho → SR} {Q' : List V → Hp → Prop} (q : SPost T W n F τ Φ D (aThen (m ρ) k))
    (next : ∀ vs l ρ1 F1 H1, Same F F1 → En T F1 (σ ++ τ) ρ1 Φ (rtsL vs l) H1 → RRL T F1 H1 (σ ++ τ) vs l → SPost T W n F1 τ Φ D (k l ρ1) → Q' vs H1) : ta σ H Q' := by
  refine h F H σ τ ρ Φ _ hn I ?_
  cases e : m ρ with
  | st => rw [e] at q; exact q
  | ex c w ρ' => rw [e] at q; exact fun d v F' H' s1 I1 => q d v σ F' H' s1 hn I1
  | ok rs ρ1 =>
    rw [e] at q
    intro vs tv F1 H1 s1 I1 a1
    have q : SPost T W n F τ Φ D (aThen1 k (ρ1.frontK (nTp rs)) (rvs ρ1 (ρ1.length - nTp rs) (ρ1.length - nTp rs) rs)) := q
    cases e2 : rvs ρ1 (ρ1.length - nTp rs) (ρ1.length - nTp rs) rs with
    | none => rw [e2] at q; exact q.elim
    | some l =>
      rw [e2] at q
      obtain ⟨I2, r2⟩ := fetch_ok I1 a1 e2 I.sg I.hio
      rw [List.append_nil] at I2
      exact next vs l _ F1 H1 s1 I2 r2 (SPost.mono s1 q)
/-- one item of an object is put -/
theorem En.putKid {i n : Nat} {io : Bool} {π : List Nat} {u : V} {p : Addr} {o o' : HO} {d' k : Py} (I : En T F S ρ Φ ((v, k) :: X) H) (hs : ρ[i]? = some (.ow io t)) (hu : S[i]? = some (some u)) (hg : t.getP π = some d) (m : d.mut = true) (a : At H u π (.ref p)) (hp : H p = some o)
    (sh : Shp T o' d') (ni : d'.imm = false) (ek : kidsH o' = putL (kidsH o) n v) (ed : d'.kids = putL d.kids n k) (hn : n ≤ (kidsH o).length) : En T F S (ρ.wr i π io t d' fun m => m != n) Φ X (upd H p o') := by
  refine I.write (Z := [(v, k)]) (R := []) hs hu hg m a hp sh ni (fun m hm => ?_) fun B C tB tC => ?_
  · have hm : m ≠ n := by simpa using hm
    rw [ek]
    unfold putL
    split
    · exact List.getElem?_set_ne (Ne.symm hm)
    · have e : n = (kidsH o).length := by omega
      by_cases z : m < (kidsH o).length
      · exact List.getElem?_append_left z
      · rw [List.getElem?_eq_none (by rw [List.length_append, List.length_singleton]; omega), List.getElem?_eq_none (by omega)]
  · cases tC with
    | cons tk r =>
      cases r
      rename_i C
      have hl := tB.length
      rw [ek, ed]
      unfold putL
      by_cases z : n < (kidsH o).length
      · rw [if_pos z, if_pos (by omega)]
        obtain ⟨k0, hk0⟩ : ∃ k0, d.kids[n]? = some k0 := ⟨_, List.getElem?_eq_getElem (by omega)⟩
        obtain ⟨w, B0, pre, post, e1, e2, t1, put⟩ := tB.at hk0
        refine ⟨_, [], put (Same.refl F) (fun _ _ => rfl) tk, .nil, ?_⟩
        rw [List.append_nil, List.append_nil, e2]
        refine ⟨B0, ?_⟩
        have h1 : (pre ++ (C ++ post) ++ B0).Perm (pre ++ (B0 ++ post) ++ C) := by
          rw [List.append_assoc pre, List.append_assoc pre]
          refine List.Perm.append_left pre ?_
          refine (List.Perm.append_right B0 List.perm_append_comm).trans ?_
          refine List.perm_append_comm.trans ?_
          rw [← List.append_assoc]
        exact h1
      · rw [if_neg z, if_neg (by omega)]
        refine ⟨_, [], tB.append (.cons tk .nil), .nil, ?_⟩
        rw [List.append_nil]
        exact Sub.refl _
/-- the value r is stored into what x is: what there is to show -/
theorem store_ok {r x : Rv} {o : V} {g : Py → Py → Option (Nat × Py)} (I : En T F S ρ Φ (r.rts v ++ X) H) (rr : RR T F H S v r) (rx : RR T F H S o x) (e : store ρ x r g = some ρ2) :
    ∃ (F' : Hp) (k d d' : Py) (n : Nat) (p : Addr) (ob : HO), Same F F' ∧ o = .ref p ∧ H p = some ob ∧ Shp T ob d ∧ (kidsH ob).length = d.kids.length ∧ g k d = some (n, d') ∧
      ∀ o', Shp T o' d' → kidsH o' = putL (kidsH ob) n v → d'.kids = putL d.kids n k → n ≤ (kidsH ob).length → En T F' S ρ2 Φ X (upd H p o') := by
  unfold store at e
  cases ei : itm ρ r with
  | none => rw [ei] at e; cases e
  | some z =>
    obtain ⟨k, ρ1⟩ := z
    rw [ei] at e
    obtain ⟨F', s1, I1⟩ := itm_ok I rr ei
    cases x with
    | im _ => cases e
    | fr _ => cases e
    | bo i π =>
      have e : st2 ρ1 i π (g k) ρ1[i]? = some ρ2 := e
      obtain ⟨u, hu, a⟩ := rx
      cases hs : ρ1[i]? with
      | none => rw [hs] at e; cases e
      | some s =>
        rw [hs] at e
        cases s with
        | no => cases e
        | im _ _ => cases e
        | al _ _ => cases e
        | ow io t =>
          have e : st2b ρ1 i π io t (g k) (t.getP π) = some ρ2 := e
          cases hg : t.getP π with
          | none => rw [hg] at e; cases e
          | some d =>
            rw [hg] at e
            have e : (if d.mut = true then st3 ρ1 i π io t (g k d) else none) = some ρ2 := e
            by_cases hm : d.mut = true
            · rw [if_pos hm] at e
              cases hgk : g k d with
              | none => rw [hgk] at e; cases e
              | some z =>
                obtain ⟨n, d'⟩ := z
                rw [hgk] at e
                have e : (if d'.imm = true then none else some (ρ1.wr i π io t d' fun m => m != n)) = some ρ2 := e
                by_cases hi : d'.imm = true
                · rw [if_pos hi] at e; cases e
                · rw [if_neg hi] at e
                  cases e
                  obtain ⟨A, tr⟩ := En.slot I1 hs hu
                  obtain ⟨B, _, _, _, t2⟩ := tr.getP I1.fh hg a (.inr (Py.mut_imm hm))
                  obtain ⟨p, ob, C, e1, e2, hp, sh, tl⟩ := t2.mut hm
                  subst e1
                  exact ⟨F', k, d, d', n, p, ob, s1, rfl, hp, sh, tl.length, hgk, fun o' q1 q2 q3 q4 => I1.putKid hs hu hg hm a hp q1 (by simpa using hi) q2 q3 q4⟩
            · rw [if_neg hm] at e; cases e
theorem ixOf_lt {α : Type} [DecidableEq α] {k : α} : ∀ {l : List α} {n : Nat}, ixOf l k = some n → l[n]? = some k
  | [], _, e => by cases e
  | a :: l, n, e => by
    have e : (if a = k then some 0 else (ixOf l k).map (· + 1)) = some n := e
    by_cases h : a = k
    · rw [if_pos h] at e; cases e; rw [h]; rfl
    · rw [if_neg h] at e
      cases e2 : ixOf l k with
      | none => rw [e2] at e; cases e
      | some m =>
        rw [e2] at e
        cases e
        have ih := ixOf_lt e2
        exact ih
theorem ixOf_none {α : Type} [DecidableEq α] {k : α} : ∀ {l : List α}, ixOf l k = none → k ∉ l
  | [], _ => List.not_mem_nil
  | a :: l, e => by
    have e : (if a = k then some 0 else (ixOf l k).map (· + 1)) = none := e
    by_cases h : a = k
    · rw [if_pos h] at e; cases e
    · rw [if_neg h] at e
      cases e2 : ixOf l k with
      | some m => rw [e2] at e; cases e
      | none => exact fun z => (List.mem_cons.mp z).elim (fun z => h z.symm) (ixOf_none e2)
theorem putK_map {κ : Type} [DecidableEq κ] {q : κ} {v : V} : ∀ {kvs : List (κ × V)} {n : Nat}, (kvs.map (·.1)).Nodup → ixOf (kvs.map (·.1)) q = some n → kvs.map (fun kv => if kv.1 = q then (kv.1, v) else kv) = kvs.set n (q, v)
  | [], _, _, e => by cases e
  | kv :: kvs, n, nd, e => by
    have e : (if kv.1 = q then some 0 else (ixOf (kvs.map (·.1)) q).map (· + 1)) = some n := e
    have nd := List.nodup_cons.mp nd
    by_cases h : kv.1 = q
    · rw [if_pos h] at e
      cases e
      rw [List.map_cons, if_pos h, List.set_cons_zero, h]
      congr 1
      refine (List.map_congr_left (g := id) fun x hx => ?_).trans (List.map_id _)
      show (if x.1 = q then (x.1, v) else x) = x
      exact if_neg fun z => nd.1 (by
        show kv.1 ∈ kvs.map (·.1)
        rw [h, ← z]
        exact List.mem_map_of_mem (f := (·.1)) hx)
    · rw [if_neg h] at e
      cases e2 : ixOf (kvs.map (·.1)) q with
      | none => rw [e2] at e; cases e
      | some m =>
        rw [e2] at e
        cases e
        rw [List.map_cons, if_neg h, List.set_cons_succ, putK_map nd.2 e2]
theorem putK_some {kvs : List (Key × V)} {q : Key} {n : Nat} {v : V} (nd : (kvs.map (·.1)).Nodup) (e : ixOf (kvs.map (·.1)) q = some n) : (putK kvs q v).map (·.1) = kvs.map (·.1) ∧ (putK kvs q v).map (·.2) = (kvs.map (·.2)).set n v := by
  have hq := ixOf_lt e
  have hm : q ∈ kvs.map (·.1) := List.mem_of_getElem? hq
  obtain ⟨kv, h1, h2⟩ := List.mem_map.mp hm
  have ha : (kvs.any fun kv => decide (kv.1 = q)) = true := List.any_eq_true.mpr ⟨kv, h1, decide_eq_true h2⟩
  unfold putK
  rw [if_pos ha, putK_map nd e, List.map_set, List.map_set]
  exact ⟨set_same hq, rfl⟩
theorem putK_none {kvs : List (Key × V)} {q : Key} {v : V} (e : ixOf (kvs.map (·.1)) q = none) : putK kvs q v = kvs ++ [(q, v)] := by
  refine putK_new v ?_
  rw [ixOf_val, e]; rfl
theorem putF_some {f : Str} {v : V} : ∀ {fs : List (Str × V)} {n : Nat}, ixOf (fs.map (·.1)) f = some n → (putF f v fs).map (·.1) = fs.map (·.1) ∧ (putF f v fs).map (·.2) = (fs.map (·.2)).set n v
  | [], _, e => by cases e
  | (g, x) :: r, n, e => by
    have e : (if g = f then some 0 else (ixOf (r.map (·.1)) f).map (· + 1)) = some n := e
    show (if g = f then (g, v) :: r else (g, x) :: putF f v r).map (·.1) = _ ∧ (if g = f then (g, v) :: r else (g, x) :: putF f v r).map (·.2) = _
    by_cases h : g = f
    · rw [if_pos h] at e
      cases e
      rw [if_pos h]
      exact ⟨rfl, rfl⟩
    · rw [if_neg h] at e
      cases e2 : ixOf (r.map (·.1)) f with
      | none => rw [e2] at e; cases e
      | some m =>
        rw [e2] at e
        cases e
        obtain ⟨i1, i2⟩ := putF_some (v := v) e2
        rw [if_neg h]
        refine ⟨?_, ?_⟩
        · rw [List.map_cons, i1]; rfl
        · rw [List.map_cons, i2]; rfl
theorem putF_none {f : Str} {v : V} : ∀ {fs : List (Str × V)}, ixOf (fs.map (·.1)) f = none → putF f v fs = fs ++ [(f, v)]
  | [], _ => rfl
  | (g, x) :: r, e => by
    have e : (if g = f then some 0 else (ixOf (r.map (·.1)) f).map (· + 1)) = none := e
    show (if g = f then (g, v) :: r else (g, x) :: putF f v r) = _
    by_cases h : g = f
    · rw [if_pos h] at e; cases e
    · rw [if_neg h] at e
      cases e2 : ixOf (r.map (·.1)) f with
      | some m => rw [e2] at e; cases e
      | none => rw [if_neg h, putF_none e2]; rfl
theorem putL_set {α : Type} {l : List α} {n : Nat} {x : α} (h : n < l.length) : putL l n x = l.set n x := if_pos h
theorem putL_end {α : Type} {l : List α} {n : Nat} {x : α} (h : n = l.length) : putL l n x = l ++ [x] := if_neg (by omega)
/-- a dict's store by values -/
def rSetDc : TSet := fun o i v H Q => ∃ a H', o = .ref a ∧ DPut H a i v H' ∧ Q H'
theorem set_dct {X : Cx} (hu : X.A.units + 1 < cLine) : PSet X rSetDc := by
  intro pins s σ H o i v ov iv u Q I ro ri rv h
  obtain ⟨a, H', eo, g, q⟩ := h
  subst eo
  cases (show ov = Value.ref a from ro)
  exact d_setItem hu I g ri rv fun s' I' => ⟨H', I', q⟩
def rSetA : TSet := fun o i v H Q => rSetL o i v H Q ∨ rSetDc o i v H Q
theorem PSet.or {X : Cx} {t u : TSet} (h : PSet X t) (k : PSet X u) : PSet X (fun o i v H Q => t o i v H Q ∨ u o i v H Q) := by
  intro pins s σ H o i v ov iv u' Q I ro ri rv q
  rcases q with q | q
  · exact h pins s σ H o i v ov iv u' Q I ro ri rv q
  · exact k pins s σ H o i v ov iv u' Q I ro ri rv q
theorem set_all {X : Cx} (hu : X.A.units + 1 < cLine) : PSet X rSetA := PSet.or set_list (set_dct hu)
theorem ixN_lt {m n : Nat} {i : Int} (h : ixN m i = some n) : n < m := (ixN_seq h).2.1
/-- a store by index -/
theorem setIx_core {r x : Rv} {o i : V} {e : Py} {Q : Hp → Prop} (I : En T F S ρ Φ (r.rts v ++ X) H) (rr : RR T F H S v r) (rx : RR T F H S o x) (ri : Rep T H i e) (es : store ρ x r (putIx e) = some ρ2)
    (q : ∀ F' H', Same F F' → En T F' S ρ2 Φ X H' → Q H') : rSetA o i v H Q := by
  obtain ⟨F', k, d, d', n, p, ob, s1, rfl, hp, sh, hl, hg, fin⟩ := store_ok I rr rx es
  cases sh with
  | tup => cases hg
  | obj _ => cases hg
  | dit _ => cases hg
  | dicL _ => cases hg
  | ditL _ => cases hg
  | lst =>
    rename_i xs l
    cases e with
    | int j =>
      have hg : putSq .lst l k (ixN l.length j) = some (n, d') := hg
      cases hj : ixN l.length j with
      | none => rw [hj] at hg; cases hg
      | some m =>
        rw [hj] at hg
        cases hg
        have lt := ixN_lt hj
        have hl : xs.length = l.length := hl
        refine .inl ⟨p, xs, j, n, rfl, ri.int_eq, hp, by rw [hl]; exact hj, q F' _ s1 (fin (.lst (xs.set n v)) .lst ?_ ?_ ?_)⟩
        · exact (putL_set (by show n < xs.length; omega)).symm
        · exact (putL_set (by show n < l.length; omega)).symm
        · show n ≤ xs.length; omega
    | _ => cases hg
  | dic ek =>
    rename_i kvs ks vs
    have hg : putDk ks vs k e.key = some (n, d') := hg
    obtain ⟨ek, nd⟩ := ek
    subst ek
    have hl : (kvs.map (·.2)).length = vs.length := hl
    cases hk : e.key with
    | none => rw [hk] at hg; cases hg
    | some c =>
      rw [hk] at hg
      have hg : (if (kvs.map (·.1)).length < sizeLine then putDc (kvs.map (·.1)) vs k c (ixOf (kvs.map (·.1)) c) else none) = some (n, d') := hg
      by_cases hz : (kvs.map (·.1)).length < sizeLine
      · rw [if_pos hz] at hg
        have hz' : kvs.length < sizeLine := by rw [List.length_map] at hz; exact hz
        refine .inr ⟨p, _, rfl, .inl ⟨kvs, c, hp, ri.key hk, hz', rfl⟩, ?_⟩
        cases ho : ixOf (kvs.map (·.1)) c with
        | some m =>
          rw [ho] at hg
          cases hg
          obtain ⟨p1, p2⟩ := putK_some (v := v) nd ho
          have lt : n < (kvs.map (·.1)).length := (List.getElem?_eq_some_iff.mp (ixOf_lt ho)).1
          rw [List.length_map] at lt
          rw [List.length_map] at hl
          refine q F' _ s1 (fin (.dK (putK kvs c v)) (.dic ⟨p1, nd⟩) ?_ ?_ ?_)
          · show (putK kvs c v).map (·.2) = putL (kvs.map (·.2)) n v
            rw [p2, putL_set (by rw [List.length_map]; exact lt)]
          · exact (putL_set (by show n < vs.length; omega)).symm
          · show n ≤ (kvs.map (·.2)).length; rw [List.length_map]; omega
        | none =>
          rw [ho] at hg
          have hg : (if (kvs.map (·.1)).length < sizeLine then some (vs.length, Py.dic false (kvs.map (·.1) ++ [c]) (vs ++ [k])) else none) = some (n, d') := hg
          rw [if_pos hz] at hg
          cases hg
          have pn := putK_none (v := v) ho
          refine q F' _ s1 (fin (.dK (putK kvs c v)) ?_ ?_ ?_ ?_)
          · rw [pn]
            refine .dic ⟨by rw [List.map_append]; rfl, ?_⟩
            rw [List.nodup_append]
            exact ⟨nd, by simp, fun a ha b hb z => by
              rw [List.mem_singleton] at hb
              exact ixOf_none ho (by rw [← hb, ← z]; exact ha)⟩
          · rw [pn]
            show (kvs ++ [(c, v)]).map (·.2) = putL (kvs.map (·.2)) vs.length v
            rw [putL_end hl.symm, List.map_append]; rfl
          · exact (putL_end rfl).symm
          · show vs.length ≤ (kvs.map (·.2)).length; omega
      · rw [if_neg hz] at hg; cases hg
/-- a[i] = e -/
def putK3 (ρ : Rho) (r x : Rv) : Option Py → SR
  | some e => optS (store ρ x r (putIx e))
  | none => .st
def putA (l : List Rv) (ρ : Rho) : SR := match l with
  | [r, x, y] => putK3 ρ r x (datR ρ y)
  | _ => .st
def mPutIx (me mo mi : ME) : MS := fun ρ => aThen (aCons me (aCons mo (aCons mi aNil)) ρ) putA
theorem En.three {v o i : V} {r x y : Rv} (I : En T F S ρ Φ (rtsL [v, o, i] [r, x, y]) H) : En T F S ρ Φ (r.rts v ++ (x.rts o ++ y.rts i)) H := by
  have e : rtsL [v, o, i] [r, x, y] = r.rts v ++ (x.rts o ++ y.rts i) := by
    show r.rts v ++ (x.rts o ++ (y.rts i ++ [])) = _
    rw [List.append_nil]
  rw [e] at I; exact I
/-- three values, then the rest -/
def on3 (P : V → V → V → Hp → Prop) : List V → Hp → Prop
  | [a, b, c], H => P a b c H
  | _, _ => False
theorem ss_putIx {te to ti : TE} {me mo mi : ME} (he : SE T W n te me) (ho : SE T W n to mo) (hi : SE T W n ti mi) : SS T W n (tAsg te (gSub to ti rSetA)) (mPutIx me mo mi) := fun F H σ τ ρ Φ D hn I q => by
  refine sas_then (Q' := on3 fun v o i H3 => rSetA o i v H3 fun H4 => D.nx σ H4) (sa_cons he (sa_cons ho (sa_cons hi sa_nil))) hn I q fun vs l ρ1 F1 H1 s1 I1 r1 q1 => ?_
  cases r1 with
  | nil => exact q1.elim
  | cons rv r1 =>
    cases r1 with
    | nil => exact q1.elim
    | cons ro r1 =>
      cases r1 with
      | nil => exact q1.elim
      | cons ri r1 =>
        cases r1 with
        | cons _ _ => exact q1.elim
        | nil =>
          rename_i v r o x i y
          have q1 : SPost T W n F1 τ Φ D (putK3 ρ1 r x (datR ρ1 y)) := q1
          have I1 := I1.three
          cases hy : datR ρ1 y with
          | none => rw [hy] at q1; exact q1.elim
          | some e =>
            rw [hy] at q1
            have q1 : SPost T W n F1 τ Φ D (optS (store ρ1 x r (putIx e))) := q1
            cases es : store ρ1 x r (putIx e) with
            | none => rw [es] at q1; exact q1.elim
            | some ρ2 =>
              rw [es] at q1
              have hri := ri.readR (I1.permX (by
                rw [← List.append_assoc]
                exact List.perm_append_comm)) hy
              exact setIx_core I1 rv ro hri es fun F' H' s2 I2 => q1 σ F' H' s2 hn I2.dropAll
/-- a.f = e -/
theorem setFd_core {r x : Rv} {o : V} {f : Str} {okc : Nat → Bool} {P : Prop} (hc : ∀ c, okc c = true → Cls T.K (T.cls c) ∧ NoAttr T.K (T.cls c) f) (I : En T F S ρ Φ (r.rts v ++ X) H) (rr : RR T F H S v r) (rx : RR T F H S o x) (es : store ρ x r (putFd f okc) = some ρ2)
    (q : ∀ (a C dx : Addr) (fs : List (Str × V)), o = .ref a → H a = some (.ins C dx fs) → Cls T.K C → NoAttr T.K C f → fs.length < 1000 → (∃ F', Same F F' ∧ En T F' S ρ2 Φ X (upd H a (.ins C dx (putF f v fs)))) → P) : P := by
  obtain ⟨F', k, d, d', n, p, ob, s1, rfl, hp, sh, hl, hg, fin⟩ := store_ok I rr rx es
  cases sh with
  | obj ek =>
    rename_i dx fs c ks vs
    subst ek
    have hg : (if (okc c && decide ((fs.map (·.1)).length < 1000)) = true then putF1 c (fs.map (·.1)) vs f k (ixOf (fs.map (·.1)) f) else none) = some (n, d') := hg
    have hl : (fs.map (·.2)).length = vs.length := hl
    by_cases hz : (okc c && decide ((fs.map (·.1)).length < 1000)) = true
    · rw [if_pos hz] at hg
      obtain ⟨z1, z2⟩ := Bool.and_eq_true_iff.mp hz
      have z2 := of_decide_eq_true z2
      rw [List.length_map] at z2
      obtain ⟨c1, c2⟩ := hc c z1
      refine q p (T.cls c) dx fs rfl hp c1 c2 z2 ⟨F', s1, ?_⟩
      cases ho : ixOf (fs.map (·.1)) f with
      | some m =>
        rw [ho] at hg
        cases hg
        obtain ⟨p1, p2⟩ := putF_some (v := v) ho
        have lt : n < (fs.map (·.1)).length := (List.getElem?_eq_some_iff.mp (ixOf_lt ho)).1
        rw [List.length_map] at lt
        rw [List.length_map] at hl
        refine fin (.ins (T.cls c) dx (putF f v fs)) (.obj p1) ?_ ?_ ?_
        · show (putF f v fs).map (·.2) = putL (fs.map (·.2)) n v
          rw [p2, putL_set (by rw [List.length_map]; exact lt)]
        · exact (putL_set (by show n < vs.length; omega)).symm
        · show n ≤ (fs.map (·.2)).length; rw [List.length_map]; omega
      | none =>
        rw [ho] at hg
        cases hg
        have pn := putF_none (v := v) ho
        refine fin (.ins (T.cls c) dx (putF f v fs)) ?_ ?_ ?_ ?_
        · rw [pn]; exact .obj (by rw [List.map_append]; rfl)
        · rw [pn]
          show (fs ++ [(f, v)]).map (·.2) = putL (fs.map (·.2)) vs.length v
          rw [putL_end hl.symm, List.map_append]; rfl
        · exact (putL_end rfl).symm
        · show vs.length ≤ (fs.map (·.2)).length; omega
    · rw [if_neg hz] at hg; cases hg
  | _ => cases hg
def putFA (f : Str) (okc : Nat → Bool) (l : List Rv) (ρ : Rho) : SR := match l with
  | [r, x] => optS (store ρ x r (putFd f okc))
  | _ => .st
def mPutFd (f : Str) (okc : Nat → Bool) (me mo : ME) : MS := fun ρ => aThen (aCons me (aCons mo aNil) ρ) (putFA f okc)
def on2 (P : V → V → Hp → Prop) : List V → Hp → Prop
  | [a, b], H => P a b H
  | _, _ => False
theorem En.two {v o : V} {r x : Rv} (I : En T F S ρ Φ (rtsL [v, o] [r, x]) H) : En T F S ρ Φ (r.rts v ++ x.rts o) H := by
  have e : rtsL [v, o] [r, x] = r.rts v ++ x.rts o := by
    show r.rts v ++ (x.rts o ++ []) = _
    rw [List.append_nil]
  rw [e] at I; exact I
theorem ss_putFd {f : Str} {okc : Nat → Bool} {ta tv : TE} {ma mv : ME} (hc : ∀ c, okc c = true → Cls T.K (T.cls c) ∧ NoAttr T.K (T.cls c) f) (hv : SE T W n tv mv) (ha : SE T W n ta ma) : SS T W n (sFld T.K ta tv f) (mPutFd f okc mv ma) := fun F H σ τ ρ Φ D hn I q => by
  refine sas_then (Q' := on2 fun y x H2 => ∃ a C dx fs, x = .ref a ∧ H2 a = some (.ins C dx fs) ∧ Cls T.K C ∧ NoAttr T.K C f ∧ fs.length < 1000 ∧ D.nx σ (upd H2 a (.ins C dx (putF f y fs)))) (sa_cons hv (sa_cons ha sa_nil)) hn I q fun vs l ρ1 F1 H1 s1 I1 r1 q1 => ?_
  cases r1 with
  | nil => exact q1.elim
  | cons rv r1 =>
    cases r1 with
    | nil => exact q1.elim
    | cons ro r1 =>
      cases r1 with
      | cons _ _ => exact q1.elim
      | nil =>
        rename_i v r o x
        have q1 : SPost T W n F1 τ Φ D (optS (store ρ1 x r (putFd f okc))) := q1
        cases es : store ρ1 x r (putFd f okc) with
        | none => rw [es] at q1; exact q1.elim
        | some ρ2 =>
          rw [es] at q1
          exact setFd_core hc I1.two rv ro es fun a C dx fs e1 e2 e3 e4 e5 ⟨F', s2, I2⟩ => ⟨a, C, dx, fs, e1, e2, e3, e4, e5, q1 σ F' _ s2 hn I2.dropAll⟩
/-- a variable, its data going on -/
theorem se_mv (i : Nat) (hi : i < n := by decide) : SE T W n (tVar i) (mMv i) := fun F H σ τ ρ Φ Q hn I q => by
  have hi0 := hi
  subst hn
  have plain : EPost T W F σ τ Φ Q (mVar i ρ) → tVar i σ H Q := fun q => se_var (W := W) i hi0 F H σ τ ρ Φ Q rfl I q
  unfold mMv at q
  cases h : ρ[i]? with
  | none => rw [h] at q; exact q.elim
  | some s =>
    rw [h] at q
    cases s with
    | no => exact q.elim
    | im io d => exact plain (by unfold mVar; rw [h]; exact q)
    | al j π => exact plain (by unfold mVar; rw [h]; exact q)
    | ow io t =>
      cases io with
      | true => exact plain (by unfold mVar; rw [h]; exact q)
      | false =>
        have q : EPost T W F σ τ Φ Q (if t.mut = true then .ok (.fr t) (ρ.set i .no) else varR i ρ ρ[i]?) := q
        by_cases hm : t.mut = true
        · rw [if_pos hm] at q
          obtain ⟨v, e⟩ := I.sl i _ h
          have I1 := I.extract h e (v := v) (π := []) (d := t) rfl (Py.mut_imm hm) rfl
          exact ⟨v, get_left hi0 e, q v F H (Same.refl F) I1 trivial⟩
        · rw [if_neg hm] at q; exact plain q
/-! ### a[i] op= e, a.f op= e -/
theorem er_bind {x : ER} {k : Rv → Rho → ER} {Q' : VK} {σ τ : List (Option V)} {Q : VK} (q : EPost T W F σ τ Φ Q (x.bind k)) (next : ∀ v r ρ1 F1 H1, Same F F1 → En T F1 (σ ++ τ) ρ1 Φ (r.rts v) H1 → RR T F1 H1 (σ ++ τ) v r → EPost T W F1 σ τ Φ Q (k r ρ1) → Q' v H1) : EPost T W F σ τ Φ Q' x ∨ ∃ c w ρ', x = .ex c w ρ' := by
  cases x with
  | ok r ρ1 => exact .inl fun v F1 H1 s1 I1 r1 => next v r ρ1 F1 H1 s1 I1 r1 (EPost.mono s1 q)
  | ex c w ρ' => exact .inr ⟨c, w, ρ', rfl⟩
  | st => exact q.elim
def augO (e : Py) (x : Rv) (ρ : Rho) (g : Py → Py → Py → Option (Nat × Py)) : OV → ER
  | .im d => optE (store ρ x (.im d) (g e))
  | _ => .st
def aug3 (f : Py → Py → OV) (e a : Py) (g : Py → Py → Py → Option (Nat × Py)) (x : Rv) (ρ : Rho) : Option Py → ER
  | some b => augO e x ρ g (f a b)
  | none => .st
def aug2 (f : Py → Py → OV) (me : ME) (e : Py) (x : Rv) (g : Py → Py → Py → Option (Nat × Py)) : ER → ER
  | .ok (.im a) ρ => pend x me ρ fun x z ρ2 => aug3 f e a g x ρ2 (datR ρ2 z)
  | _ => .st
def augS : ER → SR
  | .ok _ ρ => .nx ρ
  | .ex c w ρ => .ex c w ρ
  | .st => .st
def aug0 (f : Py → Py → OV) (me : ME) (ρ : Rho) (x : Rv) : Rv → SR
  | .im e => augS (aug2 f me e x putIx (ix2 ρ x (datR ρ x) (some e)))
  | _ => .st
def aug1 (f : Py → Py → OV) (me : ME) (l : List Rv) (ρ : Rho) : SR := match l with
  | [x, y] => aug0 f me ρ x y
  | _ => .st
def mAugIx (f : Py → Py → OV) (mo mi me : ME) : MS := fun ρ => aThen (aCons mo (aCons mi aNil) ρ) (aug1 f me)
theorem augS_post {x : ER} (hn : σ.length = n) (q : SPost T W n F τ Φ D (augS x)) : EPost T W F σ τ Φ (fun _ H' => D.nx σ H') x := by
  cases x with
  | ok r ρ' => exact fun v F' H' s I _ => q σ F' H' s hn I.dropAll
  | ex c w ρ' => exact fun d v F' H' s I => q d v σ F' H' s hn I
  | st => exact q
theorem ss_augIx {to ti te : TE} {mo mi me : ME} {tip : TIp} {f : Py → Py → OV} (hr : R2rd T tip f) (ho : SE T W n to mo) (hi : SE T W n ti mi) (he : SE T W n te me) : SS T W n (tAugS to ti te (rIxA T.K) tip rSetA) (mAugIx f mo mi me) := fun F H σ τ ρ Φ D hn I q => by
  refine sas_then (Q' := on2 fun o i H2 => rIxA T.K o i H2 fun x H3 => te σ H3 fun y H4 => tip x y H4 fun z H5 => rSetA o i z H5 fun H6 => D.nx σ H6) (sa_cons ho (sa_cons hi sa_nil)) hn I q fun vs l ρ1 F1 H1 s1 I1 r1 q1 => ?_
  cases r1 with
  | nil => exact q1.elim
  | cons ro r1 =>
    cases r1 with
    | nil => exact q1.elim
    | cons ri r1 =>
      cases r1 with
      | cons _ _ => exact q1.elim
      | nil =>
        rename_i o x i y
        cases y with
        | fr _ => exact q1.elim
        | bo _ _ => exact q1.elim
        | im e =>
          have q1 := augS_post hn (show SPost T W n F1 τ Φ D (augS (aug2 f me e x putIx (ix2 ρ1 x (datR ρ1 x) (some e)))) from q1)
          have I1 : En T F1 (σ ++ τ) ρ1 Φ (x.rts o ++ []) H1 := I1.two
          cases hx : datR ρ1 x with
          | none => rw [hx] at q1; exact q1.elim
          | some d =>
            rw [hx] at q1
            have q1 : EPost T W F1 σ τ Φ (fun _ H' => D.nx σ H') (aug2 f me e x putIx (ix3 ρ1 x e d)) := q1
            rcases ix_okst (ρ := ρ1) (r := x) (d := d) (e := e) with ⟨r', z⟩ | z
            · rw [z] at q1
              cases r' with
              | fr _ => exact q1.elim
              | bo _ _ => exact q1.elim
              | im a =>
                refine (ix_get I1 ro hx (Rep.monoS I1.fh ri) z fun w _ ra => ?_).1
                rw [List.append_nil] at I1
                refine pend_then he hn I1 ro q1 fun w2 x' zr ρ2 F2 H2 s2 I2 r2 r3 q2 => ?_
                cases hz : datR ρ2 zr with
                | none => rw [hz] at q2; exact q2.elim
                | some b =>
                  rw [hz] at q2
                  have q2 : EPost T W F2 σ τ Φ (fun _ H' => D.nx σ H') (augO e x' ρ2 putIx (f a b)) := q2
                  have hb := r3.readR (I2.permX List.perm_append_comm) hz
                  have ha : Rep T H2 w a := (Rep.mono s2 ra).monoS I2.fh
                  refine (hr F2 H2 w w2 a b _ ha hb).2 ?_
                  cases ho : f a b with
                  | st => rw [ho] at q2; exact q2.elim
                  | fr _ => rw [ho] at q2; exact q2.elim
                  | im c =>
                    rw [ho] at q2
                    have q2 : EPost T W F2 σ τ Φ (fun _ H' => D.nx σ H') (optE (store ρ2 x' (.im c) (putIx e))) := q2
                    have I2' : En T F2 (σ ++ τ) ρ2 Φ (x'.rts o) H2 := I2.keepL
                    cases es : store ρ2 x' (.im c) (putIx e) with
                    | none => rw [es] at q2; exact q2.elim
                    | some ρ3 =>
                      rw [es] at q2
                      have go : ∀ {F3 H3 : Hp} (u : V), Same F2 F3 → En T F3 (σ ++ τ) ρ2 Φ (x'.rts o) H3 → RR T F3 H3 (σ ++ τ) o x' → Rep T F3 u c → rSetA o i u H3 fun H6 => D.nx σ H6 := fun {F3 H3} u s3 I3 rx ru =>
                        setIx_core (r := .im c) I3 ru rx ((Rep.mono (s2.trans s3) ri).monoS I3.fh) es fun F' H' s4 I4 => q2 .non F' H' (s3.trans s4) I4.dropAll .non
                      refine ⟨fun u ru => go u (Same.refl F2) I2' r2 ru, fun ds xs p ed hp rl => ?_⟩
                      subst ed
                      obtain ⟨F3, s3, I3, r3⟩ := I2'.tup hp rl
                      exact go _ s3 I3 (r2.mono s3 (keepK_grow hp)) r3
            · rw [z] at q1; exact q1.elim
end
end Mr
/-! Dp: methods of lists and dicts -/
namespace Mr
open PySem L2

/-! ### a checked receiver -/
def chkE (chk : Rho → Rv → Bool) : ER → ER
  | .ok r ρ => if chk ρ r = true then .ok r ρ else .st
  | .ex c w ρ => .ex c w ρ
  | .st => .st
def mChk (chk : Rho → Rv → Bool) (m : ME) : ME := fun ρ => chkE chk (m ρ)
/-- what is of the type, by its data -/
def tyO (N : String) : Option Py → Bool
  | some (.lst _) => N == "list"
  | some (.scr _) => N == "list"
  | some (.str _) => N == "str"
  | some (.int _) => N == "int"
  | _ => false
def tyR (N : String) (ρ : Rho) (r : Rv) : Bool := tyO N (datR ρ r)
def tTy (K : PySem.W.Frag) (N : String) (te : TE) : TE := fun σ H Q => te σ H fun x H1 => tyV K N x H1 ∧ Q x H1
/-! ### an owned object -/
structure Rc where
  i : Nat
  π : List Nat
  io : Bool
  t : Py
  d : Py
def rcv3 (i : Nat) (π : List Nat) (io : Bool) (t : Py) : Option Py → Option Rc
  | some d => if d.mut = true then some ⟨i, π, io, t, d⟩ else none
  | none => none
def rcv2 (i : Nat) (π : List Nat) : Option Sl → Option Rc
  | some (.ow io t) => rcv3 i π io t (t.getP π)
  | _ => none
def rcv (ρ : Rho) : Rv → Option Rc
  | .bo i π => rcv2 i π ρ[i]?
  | _ => none
def Rc.wr (c : Rc) (ρ : Rho) (d' : Py) (keep : Nat → Bool) : Rho := ρ.wr c.i c.π c.io c.t d' keep
def freeK (k : Py) : Rv := if k.own = true then .fr k else .im k.unfz
structure RcOk (T : Tb) (H : Hp) (S : List (Option V)) (ρ : Rho) (o : V) (c : Rc) (u : V) (p : Addr) (ob : HO) : Prop where
  sl : ρ[c.i]? = some (.ow c.io c.t)
  va : S[c.i]? = some (some u)
  ge : c.t.getP c.π = some c.d
  mu : c.d.mut = true
  at' : At H u c.π (.ref p)
  eq : o = .ref p
  hp : H p = some ob
  sh : Shp T ob c.d
  ln : (kidsH ob).length = c.d.kids.length
section
variable {T : Tb} {W : Wx} {n : Nat} {F F1 F2 F' H H1 H2 H' : Hp} {Φ : Frm} {S τ : List (Option V)} {σ : L2.St} {ρ ρ1 ρ2 : Rho} {X Y : Rts} {v w o : V} {d k t : Py} {A B : List Addr} {xs : List V} {Q : VK} {D : Ends}
theorem se_chk {te te' : TE} {m : ME} {chk : Rho → Rv → Bool} (P : V → Hp → Prop) (h : SE T W n te m) (hc : ∀ {F H : Hp} {S : List (Option V)} {ρ : Rho} {Φ : Frm} {v : V} {r : Rv}, En T F S ρ Φ (r.rts v) H → RR T F H S v r → chk ρ r = true → P v H)
    (ht : ∀ σ H Q, te σ H (fun x H1 => P x H1 ∧ Q x H1) = te' σ H Q) : SE T W n te' (mChk chk m) := fun F H σ τ ρ Φ Q hn I q => by
  rw [← ht]
  refine h F H σ τ ρ Φ _ hn I ?_
  have q : EPost T W F σ τ Φ Q (chkE chk (m ρ)) := q
  cases e : m ρ with
  | st => rw [e] at q; exact q
  | ex c w ρ' => rw [e] at q; exact q
  | ok r ρ1 =>
    rw [e] at q
    have q : EPost T W F σ τ Φ Q (if chk ρ1 r = true then .ok r ρ1 else .st) := q
    by_cases hk : chk ρ1 r = true
    · rw [if_pos hk] at q
      exact fun v F1 H1 s1 I1 r1 => ⟨hc I1 r1 hk, q v F1 H1 s1 I1 r1⟩
    · rw [if_neg hk] at q; exact q.elim
theorem tyR_ok {N : String} {r : Rv} (I : En T F S ρ Φ (r.rts v) H) (h : RR T F H S v r) (e : tyR N ρ r = true) : tyV T.K N v H := by
  unfold tyR at e
  cases hx : datR ρ r with
  | none => rw [hx] at e; cases e
  | some d =>
    rw [hx] at e
    have I' : En T F S ρ Φ (r.rts v ++ []) H := by rw [List.append_nil]; exact I
    have rp := h.readR I' hx
    cases d with
    | lst l =>
      obtain ⟨xs, ⟨a, z1, z2⟩, _⟩ := view_ok I' h hx rfl
      subst z1
      exact .inl ⟨eq_of_beq e, xs, .inl (.inl z2)⟩
    | scr l =>
      obtain ⟨xs, ⟨a, z1, z2⟩, _⟩ := view_ok I' h hx rfl
      subst z1
      exact .inl ⟨eq_of_beq e, xs, z2⟩
    | str z => cases rp; exact eq_of_beq e
    | int i => cases rp; exact eq_of_beq e
    | _ => cases e
theorem se_ty {N : String} {te : TE} {m : ME} (h : SE T W n te m) : SE T W n (tTy T.K N te) (mChk (tyR N) m) := se_chk (fun x H1 => tyV T.K N x H1) h tyR_ok fun _ _ _ => rfl
/-- a method of a builtin type: its mirror takes the receiver and the arguments -/
abbrev MOp := Rv → List Rv → Rho → ER
def BMok (T : Tb) (r : V → List V → Hp → VK → Prop) (op : MOp) : Prop := ∀ {W : Wx} {F H : Hp} {σ : L2.St} {τ : List (Option V)} {ρ : Rho} {Φ : Frm} {Q : VK} {x : V} {xs : List V} {y : Rv} {l : List Rv},
  En T F (σ ++ τ) ρ Φ (y.rts x ++ rtsL xs l) H → RR T F H (σ ++ τ) x y → RRL T F H (σ ++ τ) xs l → EPost T W F σ τ Φ Q (op y l ρ) → r x xs H Q
def opC (op : MOp) : List Rv → Rho → ER
  | y :: l, ρ => op y l ρ
  | [], _ => .st
def mBM (N : String) (op : MOp) (mo : ME) (ma : MA) : ME := fun ρ => aBind (aCons (mChk (tyR N) mo) ma ρ) (opC op)
def onC (P : V → List V → Hp → Prop) : List V → Hp → Prop
  | x :: xs, H => P x xs H
  | _, _ => False
theorem se_bm {N : String} {r : V → List V → Hp → VK → Prop} {op : MOp} {to : TE} {t : TA} {mo : ME} {ma : MA} (hr : BMok T r op) (ho : SE T W n to mo) (ha : SA T W n t ma) : SE T W n (tBM T.K N r to t) (mBM N op mo ma) := fun F H σ τ ρ Φ Q hn I q => by
  refine sa_then (Q' := onC fun x xs H2 => r x xs H2 Q) (sa_cons (se_ty (N := N) ho) ha) hn I q fun vs l ρ1 F1 H1 s1 I1 r1 q1 => ?_
  cases r1 with
  | nil => exact q1.elim
  | cons rx rl => exact hr I1 rx rl q1
theorem se_bm0 {N : String} {r : V → List V → Hp → VK → Prop} {op : MOp} {to : TE} {mo : ME} (hr : BMok T r op) (ho : SE T W n to mo) : SE T W n (tBM0 T.K N r to) (mBM N op mo aNil) := fun F H σ τ ρ Φ Q hn I q =>
  se_bm (W := W) (N := N) hr ho sa_nil F H σ τ ρ Φ Q hn I q
theorem rcv_ok {x : Rv} {c : Rc} (I : En T F S ρ Φ X H) (rx : RR T F H S o x) (e : rcv ρ x = some c) : ∃ u p ob, RcOk T H S ρ o c u p ob ∧ x.rts o = [] := by
  cases x with
  | im _ => cases e
  | fr _ => cases e
  | bo i π =>
    have e : rcv2 i π ρ[i]? = some c := e
    obtain ⟨u, hu, a⟩ := rx
    cases hs : ρ[i]? with
    | none => rw [hs] at e; cases e
    | some s =>
      rw [hs] at e
      cases s with
      | no => cases e
      | im _ _ => cases e
      | al _ _ => cases e
      | ow io t =>
        have e : rcv3 i π io t (t.getP π) = some c := e
        cases hg : t.getP π with
        | none => rw [hg] at e; cases e
        | some d =>
          rw [hg] at e
          have e : (if d.mut = true then some (⟨i, π, io, t, d⟩ : Rc) else none) = some c := e
          by_cases hm : d.mut = true
          · rw [if_pos hm] at e
            cases e
            obtain ⟨A, tr⟩ := En.slot I hs hu
            obtain ⟨B, _, _, _, t2⟩ := tr.getP I.fh hg a (.inr (Py.mut_imm hm))
            obtain ⟨p, ob, C, e1, e2, hp, sh, tl⟩ := t2.mut hm
            subst e1
            exact ⟨u, p, ob, ⟨hs, hu, hg, hm, a, rfl, hp, sh, tl.length⟩, rfl⟩
          · rw [if_neg hm] at e; cases e
/-- an item is taken off -/
theorem En.takeKid {c : Rc} {u : V} {p : Addr} {ob o' : HO} {d' k : Py} {j : Nat} {keep : Nat → Bool} (I : En T F S ρ Φ X H) (h : RcOk T H S ρ o c u p ob) (sh : Shp T o' d') (ni : d'.imm = false) (hk : c.d.kids[j]? = some k)
    (ek : kidsH o' = (kidsH ob).eraseIdx j) (ed : d'.kids = c.d.kids.eraseIdx j) (kp : ∀ m, keep m = true → m < j) : ∃ w, (kidsH ob)[j]? = some w ∧ En T F S (c.wr ρ d' keep) Φ ((w, k) :: X) (upd H p o') := by
  obtain ⟨w, hw⟩ : ∃ w, (kidsH ob)[j]? = some w := ⟨_, List.getElem?_eq_getElem (by rw [h.ln]; exact (List.getElem?_eq_some_iff.mp hk).1)⟩
  refine ⟨w, hw, ?_⟩
  refine En.write (Z := []) (R := [(w, k)]) I h.sl h.va h.ge h.mu h.at' h.hp sh ni (fun m hm => ?_) fun B C tB tC => ?_
  · rw [ek, List.getElem?_eraseIdx_of_lt (kp m hm)]
  · cases tC
    have key : ∀ {vs : List V} {ds : List Py} {B : List Addr} {j : Nat}, TrL T F H vs ds B → vs[j]? = some w → ds[j]? = some k → ∃ K' R', TrL T F H (vs.eraseIdx j) (ds.eraseIdx j) K' ∧ Tr T F H w k R' ∧ (K' ++ R').Perm B := fun {vs} => by
      induction vs with
      | nil => intro ds B j t e _; cases e
      | cons v vs ih =>
        intro ds B j t e1 e2
        cases t with
        | cons t r =>
          rename_i d ds A B
          cases j with
          | zero => cases e1; cases e2; exact ⟨B, A, r, t, List.perm_append_comm⟩
          | succ j =>
            obtain ⟨K', R', q1, q2, q3⟩ := ih r e1 e2
            exact ⟨A ++ K', R', .cons t q1, q2, by rw [List.append_assoc]; exact List.Perm.append_left A q3⟩
    obtain ⟨K', R', q1, q2, q3⟩ := key tB hw hk
    rw [ek, ed]
    refine ⟨K', R' ++ [], q1, .cons q2 .nil, ?_⟩
    rw [List.append_nil, List.append_nil]
    exact Sub.of q3
theorem En.freeK (I : En T F S ρ Φ ((v, k) :: X) H) : En T F S ρ Φ ((freeK k).rts v ++ X) H ∧ RR T F H S v (freeK k) := by
  unfold Mr.freeK
  by_cases h : k.own = true
  · rw [if_pos h]; exact ⟨I, trivial⟩
  · rw [if_neg h]
    obtain ⟨A, tr⟩ := En.root I
    exact ⟨(show En T F S ρ Φ ([(v, k)] ++ X) H from I).dropX, tr_unown tr (by simpa using h)⟩
/-! ### xs.append(y) -/
def putApp (k : Py) : Py → Option (Nat × Py)
  | .lst l => if l.length < sizeLine then some (l.length, .lst (l ++ [k])) else none
  | _ => none
def opAppend : MOp := fun x l ρ => match l with
  | [y] => optE (store ρ x y putApp)
  | _ => .st
theorem bm_append : BMok T rAppend opAppend := fun {W F H σ τ ρ Φ Q x xs y l} I rx rl q => by
  cases rl with
  | nil => exact q.elim
  | cons ry rl =>
    cases rl with
    | cons _ _ => exact q.elim
    | nil =>
      rename_i v r
      have q : EPost T W F σ τ Φ Q (optE (store ρ y r putApp)) := q
      cases es : store ρ y r putApp with
      | none => rw [es] at q; exact q.elim
      | some ρ2 =>
        rw [es] at q
        have I1 : En T F (σ ++ τ) ρ Φ (r.rts v ++ y.rts x) H := I.permX (by
          show (y.rts x ++ (r.rts v ++ [])).Perm _
          rw [List.append_nil]; exact List.perm_append_comm)
        obtain ⟨F', k, d, d', n, p, ob, s1, rfl, hp, sh, hl, hg, fin⟩ := store_ok I1 ry rx es
        cases sh with
        | lst =>
          rename_i xs l
          have hg : (if l.length < sizeLine then some (l.length, Py.lst (l ++ [k])) else none) = some (n, d') := hg
          have hl : xs.length = l.length := hl
          by_cases hz : l.length < sizeLine
          · rw [if_pos hz] at hg
            cases hg
            refine ⟨p, xs, v, rfl, rfl, hp, by omega, q .non F' _ s1 (fin (.lst (xs ++ [v])) .lst ?_ ?_ ?_).dropAll .non⟩
            · exact (putL_end hl.symm).symm
            · exact (putL_end rfl).symm
            · show l.length ≤ xs.length; omega
          · rw [if_neg hz] at hg; cases hg
        | _ => cases hg
/-! ### xs.pop() -/
def pop2 (ρ : Rho) (c : Rc) (l : List Py) (j : Nat) : Option Py → ER
  | some k => .ok (freeK k) (c.wr ρ (.lst (l.eraseIdx j)) fun m => decide (m < j))
  | none => .st
def pop1 (ρ : Rho) (c : Rc) : Py → ER
  | .lst l => pop2 ρ c l (l.length - 1) l[l.length - 1]?
  | _ => .st
def popO (ρ : Rho) : Option Rc → ER
  | some c => pop1 ρ c c.d
  | none => .st
def opPop : MOp := fun x l ρ => match l with
  | [] => popO ρ (rcv ρ x)
  | _ => .st
theorem dropLast_erase {α : Type} (l : List α) : l.eraseIdx (l.length - 1) = l.dropLast := by
  induction l with
  | nil => rfl
  | cons a l ih =>
    cases l with
    | nil => rfl
    | cons b l =>
      show (a :: b :: l).eraseIdx (l.length + 1) = a :: (b :: l).dropLast
      rw [List.eraseIdx_cons_succ]
      exact congrArg (a :: ·) ih
theorem bm_pop : BMok T rPop opPop := fun {W F H σ τ ρ Φ Q x xs y l} I rx rl q => by
  cases rl with
  | cons _ _ => exact q.elim
  | nil =>
    have q : EPost T W F σ τ Φ Q (popO ρ (rcv ρ y)) := q
    cases ec : rcv ρ y with
    | none => rw [ec] at q; exact q.elim
    | some c =>
      rw [ec] at q
      obtain ⟨u, p, ob, h, _⟩ := rcv_ok I rx ec
      have q : EPost T W F σ τ Φ Q (pop1 ρ c c.d) := q
      have sh := h.sh
      cases ed : c.d with
      | lst l =>
        rw [ed] at q sh
        cases sh with
        | lst =>
          rename_i xs
          have hl : xs.length = l.length := by have := h.ln; rw [ed] at this; exact this
          have q : EPost T W F σ τ Φ Q (pop2 ρ c l (l.length - 1) l[l.length - 1]?) := q
          cases hk : l[l.length - 1]? with
          | none => rw [hk] at q; exact q.elim
          | some k =>
            rw [hk] at q
            obtain ⟨w, hw, I1⟩ := I.takeKid h (o' := .lst xs.dropLast) (d' := .lst (l.eraseIdx (l.length - 1))) (k := k) (j := l.length - 1) (keep := fun m => decide (m < l.length - 1)) .lst rfl (by rw [ed]; exact hk)
              (by show xs.dropLast = xs.eraseIdx (l.length - 1); rw [← hl, dropLast_erase]) (by rw [ed]; rfl) fun m hm => of_decide_eq_true hm
            obtain ⟨I2, r2⟩ := I1.freeK
            exact ⟨p, xs, w, h.eq, rfl, h.hp, by rw [hl]; exact hw, q w F _ (Same.refl F) I2.keepL r2⟩
      | _ => rw [ed] at q; exact q.elim
/-! ### xs.pop(i) -/
def popAt2 (ρ : Rho) (c : Rc) (l : List Py) : Option Nat → ER
  | some j => pop2 ρ c l j l[j]?
  | none => .st
def popAt1 (ρ : Rho) (c : Rc) (i : Int) : Py → ER
  | .lst l => if -(2 ^ 63) ≤ i ∧ i < 2 ^ 63 then popAt2 ρ c l (ixN l.length i) else .st
  | _ => .st
def popAtO (ρ : Rho) (i : Int) : Option Rc → ER
  | some c => popAt1 ρ c i c.d
  | none => .st
def popAt0 (ρ : Rho) (x : Rv) : Rv → ER
  | .im (.int i) => popAtO ρ i (rcv ρ x)
  | _ => .st
def opPopAt : MOp := fun x l ρ => match l with
  | [y] => popAt0 ρ x y
  | _ => .st
theorem bm_popAt : BMok T rPopAt opPopAt := fun {W F H σ τ ρ Φ Q x xs y l} I rx rl q => by
  cases rl with
  | nil => exact q.elim
  | cons ry rl =>
    cases rl with
    | cons _ _ => exact q.elim
    | nil =>
      rename_i v r
      cases r with
      | fr _ => exact q.elim
      | bo _ _ => exact q.elim
      | im d =>
        cases d with
        | int i =>
          have q : EPost T W F σ τ Φ Q (popAtO ρ i (rcv ρ y)) := q
          cases ec : rcv ρ y with
          | none => rw [ec] at q; exact q.elim
          | some c =>
            rw [ec] at q
            obtain ⟨u, p, ob, h, _⟩ := rcv_ok I rx ec
            have q : EPost T W F σ τ Φ Q (popAt1 ρ c i c.d) := q
            have sh := h.sh
            cases ed : c.d with
            | lst l =>
              rw [ed] at q sh
              cases sh with
              | lst =>
                rename_i xs
                have hl : xs.length = l.length := by have := h.ln; rw [ed] at this; exact this
                have q : EPost T W F σ τ Φ Q (if -(2 ^ 63) ≤ i ∧ i < 2 ^ 63 then popAt2 ρ c l (ixN l.length i) else .st) := q
                by_cases hi : -(2 ^ 63) ≤ i ∧ i < 2 ^ 63
                · rw [if_pos hi] at q
                  cases hj : ixN l.length i with
                  | none => rw [hj] at q; exact q.elim
                  | some j =>
                    rw [hj] at q
                    have q : EPost T W F σ τ Φ Q (pop2 ρ c l j l[j]?) := q
                    cases hk : l[j]? with
                    | none => rw [hk] at q; exact q.elim
                    | some k =>
                      rw [hk] at q
                      obtain ⟨w, hw, I1⟩ := I.takeKid h (o' := .lst (xs.eraseIdx j)) (d' := .lst (l.eraseIdx j)) (k := k) (j := j) (keep := fun m => decide (m < j)) .lst rfl (by rw [ed]; exact hk)
                        rfl (by rw [ed]; rfl) fun m hm => of_decide_eq_true hm
                      obtain ⟨I2, r2⟩ := I1.freeK
                      have rv := Rep.int_eq (show Rep T F v (.int i) from ry)
                      exact ⟨p, xs, i, j, w, h.eq, by rw [rv], h.hp, hi.1, hi.2, by rw [hl]; exact (ixN_seq hj).1, hw, q w F _ (Same.refl F) I2.keepL r2⟩
                · rw [if_neg hi] at q; exact q.elim
            | _ => rw [ed] at q; exact q.elim
        | _ => exact q.elim
/-! ### xs.clear() -/
def clr1 (ρ : Rho) (c : Rc) : Py → ER
  | .lst _ => .ok (.im .non) (c.wr ρ (.lst []) fun _ => false)
  | _ => .st
def clrO (ρ : Rho) : Option Rc → ER
  | some c => clr1 ρ c c.d
  | none => .st
def opClear : MOp := fun x l ρ => match l with
  | [] => clrO ρ (rcv ρ x)
  | _ => .st
theorem bm_clear : BMok T rClear opClear := fun {W F H σ τ ρ Φ Q x xs y l} I rx rl q => by
  cases rl with
  | cons _ _ => exact q.elim
  | nil =>
    have q : EPost T W F σ τ Φ Q (clrO ρ (rcv ρ y)) := q
    cases ec : rcv ρ y with
    | none => rw [ec] at q; exact q.elim
    | some c =>
      rw [ec] at q
      obtain ⟨u, p, ob, h, _⟩ := rcv_ok I rx ec
      have q : EPost T W F σ τ Φ Q (clr1 ρ c c.d) := q
      have sh := h.sh
      cases ed : c.d with
      | lst l =>
        rw [ed] at q sh
        cases sh with
        | lst =>
          rename_i xs
          have I1 : En T F (σ ++ τ) (c.wr ρ (.lst []) fun _ => false) Φ ([] ++ (y.rts x ++ rtsL [] [])) (upd H p (.lst [])) := En.write (Z := []) (R := []) I h.sl h.va h.ge h.mu h.at' h.hp .lst rfl (fun m hm => by cases hm) fun B C tB tC => ⟨[], [], .nil, .nil, ⟨B ++ C, List.Perm.refl _⟩⟩
          exact ⟨p, xs, h.eq, rfl, h.hp, q .non F _ (Same.refl F) I1.dropAll .non⟩
      | _ => rw [ed] at q; exact q.elim
/-! ### xs.extend(ys): the items of ys stay -/
def ext2 (ρ : Rho) (c : Rc) (m : List Py) : Py → ER
  | .lst l => if l.length + m.length ≤ sizeLine then .ok (.im .non) (c.wr ρ (.lst (l ++ m.map wrap1)) fun j => decide (j < l.length)) else .st
  | _ => .st
def extO (ρ : Rho) (m : List Py) : Option Rc → ER
  | some c => ext2 ρ c m c.d
  | none => .st
def ext1 (x : Rv) : Option (Py × Rho) → ER
  | some (.lst m, ρ) => extO ρ m (rcv ρ x)
  | _ => .st
def opExtend : MOp := fun x l ρ => match l with
  | [y] => ext1 x (flatR ρ y)
  | _ => .st
theorem trL_wrap : ∀ {zs : List V} {m : List Py}, RepL T F zs m → TrL T F H zs (m.map wrap1) []
  | _, _, .nil => .nil
  | _, _, .cons h t => (TrL.cons (wrap1_tr h) (trL_wrap t) : TrL _ _ _ _ _ ([] ++ []))
theorem bm_extend : BMok T rExtend opExtend := fun {W F H σ τ ρ Φ Q x xs y l} I rx rl q => by
  cases rl with
  | nil => exact q.elim
  | cons ry rl =>
    cases rl with
    | cons _ _ => exact q.elim
    | nil =>
      rename_i v r
      have q : EPost T W F σ τ Φ Q (ext1 y (flatR ρ r)) := q
      cases ef : flatR ρ r with
      | none => rw [ef] at q; exact q.elim
      | some z =>
        obtain ⟨dm, ρ1⟩ := z
        rw [ef] at q
        have I0 : En T F (σ ++ τ) ρ Φ (r.rts v ++ y.rts x) H := I.permX (by
          show (y.rts x ++ (r.rts v ++ [])).Perm _
          rw [List.append_nil]; exact List.perm_append_comm)
        obtain ⟨F', s1, I1, pk⟩ := flat_then I0 ry ef
        have rx' : RR T F' H (σ ++ τ) x y := rx.mono s1 fun a o e => ⟨o, e, rfl⟩
        cases dm with
        | lst m =>
          have q : EPost T W F σ τ Φ Q (extO ρ1 m (rcv ρ1 y)) := q
          obtain ⟨b, zs, eb, hb, rz⟩ := pk.lst I1.fh
          cases ec : rcv ρ1 y with
          | none => rw [ec] at q; exact q.elim
          | some c =>
            rw [ec] at q
            obtain ⟨u, p, ob, h, _⟩ := rcv_ok I1 rx' ec
            have q : EPost T W F σ τ Φ Q (ext2 ρ1 c m c.d) := q
            have sh := h.sh
            cases ed : c.d with
            | lst l =>
              rw [ed] at q sh
              cases sh with
              | lst =>
                rename_i xs
                have hl : xs.length = l.length := by have := h.ln; rw [ed] at this; exact this
                have q : EPost T W F σ τ Φ Q (if l.length + m.length ≤ sizeLine then .ok (.im .non) (c.wr ρ1 (.lst (l ++ m.map wrap1)) fun j => decide (j < l.length)) else .st) := q
                by_cases hz : l.length + m.length ≤ sizeLine
                · rw [if_pos hz] at q
                  have hzl := rz.length
                  have I2 : En T F' (σ ++ τ) (c.wr ρ1 (.lst (l ++ m.map wrap1)) fun j => decide (j < l.length)) Φ ([] ++ y.rts x) (upd H p (.lst (xs ++ zs))) := En.write (Z := []) (R := []) I1 h.sl h.va h.ge h.mu h.at' h.hp .lst rfl (fun j hj => by
                    have hj : j < l.length := of_decide_eq_true hj
                    exact List.getElem?_append_left (by omega)) fun B C tB tC => by
                    cases tC
                    rw [ed] at tB
                    refine ⟨B ++ [], [], tB.append (trL_wrap rz), .nil, ?_⟩
                    rw [List.append_nil]
                    exact Sub.refl _
                  exact ⟨p, b, xs, zs, h.eq, by rw [eb], h.hp, hb, by omega, q .non F' _ s1 I2.dropAll .non⟩
                · rw [if_neg hz] at q; exact q.elim
            | _ => rw [ed] at q; exact q.elim
        | _ => exact q.elim
end
end Mr
/-! Dp: two names at once, subscripts as targets, xs.insert -/
namespace Mr
open PySem L2

/-! ### i, j = a, b -/
def parOk (i : Nat) : Rv → Bool
  | .bo k _ => k != i
  | _ => true
def par2 (j : Nat) (s : Rv) : Option Rho → SR
  | some ρ => optS (setRv j s ρ)
  | none => .st
def parA (i j : Nat) (l : List Rv) (ρ : Rho) : SR := match l with
  | [r, s] => if parOk i s = true then par2 j s (setRv i r ρ) else .st
  | _ => .st
def mPar (i j : Nat) (ma mb : ME) : MS := fun ρ => aThen (aCons ma (aCons mb aNil) ρ) (parA i j)
/-! ### i, j, l = a, b, c -/
def par3c (l : Nat) (t : Rv) : Option Rho → SR
  | some ρ => optS (setRv l t ρ)
  | none => .st
def par3b (j l : Nat) (s t : Rv) : Option Rho → SR
  | some ρ => par3c l t (setRv j s ρ)
  | none => .st
def parB (i j l : Nat) (k : List Rv) (ρ : Rho) : SR := match k with
  | [r, s, t] => if (parOk i s && (parOk i t && parOk j t)) = true then par3b j l s t (setRv i r ρ) else .st
  | _ => .st
def mPar3 (i j l : Nat) (ma mb mc : ME) : MS := fun ρ => aThen (aCons ma (aCons mb (aCons mc aNil)) ρ) (parB i j l)
/-! ### a[i] as a target -/
def gPut3 (r x : Rv) (ρ : Rho) : Option Py → Option Rho
  | some e => store ρ x r (putIx e)
  | none => none
def gPut2 (r : Rv) (ρ : Rho) : List Rv → Option Rho
  | [x, y] => gPut3 r x ρ (datR ρ y)
  | _ => none
def gPut1b (r : Rv) (ρ : Rho) : Option (List Rv) → Option Rho
  | some l => gPut2 r ρ l
  | none => none
def gPut1 (r : Rv) : AR → Option Rho
  | .ok as ρ => gPut1b r (ρ.frontK (nTp as)) (rvs ρ (ρ.length - nTp as) (ρ.length - nTp as) as)
  | _ => none
def gPut (mo mi : ME) : MG := fun r ρ => if r.free = true then gPut1 r (aCons mo (aCons mi aNil) ρ) else none
/-! ### xs.insert(i, y) -/
def ins3 (ρ : Rho) (c : Rc) (i : Int) (k : Py) : Py → ER
  | .lst l => if l.length < sizeLine ∧ 0 ≤ i ∧ i < 2 ^ 63 then .ok (.im .non) (c.wr ρ (.lst (l.take i.toNat ++ [k] ++ l.drop i.toNat)) fun m => decide (m < i.toNat) && decide (m < l.length)) else .st
  | _ => .st
def ins2 (ρ : Rho) (i : Int) (k : Py) : Option Rc → ER
  | some c => ins3 ρ c i k c.d
  | none => .st
def ins1 (x : Rv) (i : Int) : Option (Py × Rho) → ER
  | some (k, ρ) => ins2 ρ i k (rcv ρ x)
  | none => .st
def ins0 (ρ : Rho) (x y : Rv) : Rv → ER
  | .im (.int i) => ins1 x i (itm ρ y)
  | _ => .st
def opInsert : MOp := fun x l ρ => match l with
  | [i, y] => ins0 ρ x y i
  | _ => .st
abbrev rIns : V → List V → Hp → VK → Prop := fun x vs H Q => ∃ (l : Addr) (xs : List V) (i : Int) (y : V), x = .ref l ∧ vs = [.int i, y] ∧ H l = some (.lst xs) ∧ xs.length < sizeLine ∧ 0 ≤ i ∧ i < 2 ^ 63 ∧
    Q .non (upd H l (.lst (xs.take i.toNat ++ [y] ++ xs.drop i.toNat)))
section
variable {T : Tb} {W : Wx} {n : Nat} {F F1 F2 F' H H1 H2 H' : Hp} {Φ : Frm} {S τ : List (Option V)} {σ : L2.St} {ρ ρ1 ρ2 : Rho} {X Y : Rts} {v w o : V} {d k t : Py} {A B : List Addr} {xs : List V} {Q : VK} {D : Ends}
theorem ss_par [NoSg T] {ta tb : TE} {ma mb : ME} (i j : Nat) (ha : SE T W n ta ma) (hb : SE T W n tb mb) (hi : i < n := by decide) (hj : j < n := by decide) : SS T W n (tPar i j (tCons ta (tCons tb tNil))) (mPar i j ma mb) := fun F H σ τ ρ Φ D hn I q => by
  refine sas_then (sa_cons ha (sa_cons hb sa_nil)) hn I q fun vs l ρ1 F1 H1 s1 I1 r1 q1 => ?_
  cases r1 with
  | nil => exact q1.elim
  | cons rv r1 =>
    cases r1 with
    | nil => exact q1.elim
    | cons ro r1 =>
      cases r1 with
      | cons _ _ => exact q1.elim
      | nil =>
        rename_i v r w s
        have q1 : SPost T W n F1 τ Φ D (if parOk i s = true then par2 j s (setRv i r ρ1) else .st) := q1
        by_cases hk : parOk i s = true
        · rw [if_pos hk] at q1
          cases e1 : setRv i r ρ1 with
          | none => rw [e1] at q1; exact q1.elim
          | some ρ2 =>
            rw [e1] at q1
            have q1 : SPost T W n F1 τ Φ D (optS (setRv j s ρ2)) := q1
            have I2 := set_rv I1.two rv e1
            have r2 : RR T F1 H1 ((σ ++ τ).set i (some v)) w s := by
              cases s with
              | im d => exact ro
              | fr d => trivial
              | bo k π =>
                obtain ⟨u, z1, z2⟩ := ro
                have hne : k ≠ i := by simpa [parOk] using hk
                exact ⟨u, by rw [List.getElem?_set_ne (Ne.symm hne)]; exact z1, z2⟩
            cases e2 : setRv j s ρ2 with
            | none => rw [e2] at q1; exact q1.elim
            | some ρ3 =>
              rw [e2] at q1
              have I3 := set_rv (X := []) (by rw [List.append_nil]; exact I2) r2 e2
              rw [set_app (by rw [hn]; exact hi), set_app (by rw [List.length_set, hn]; exact hj)] at I3
              exact ⟨v, w, rfl, q1 _ F1 H1 (Same.refl F1) (by rw [List.length_set, List.length_set]; exact hn) I3⟩
        · rw [if_neg hk] at q1; exact q1.elim
theorem RR.setOk {i : Nat} {s : Rv} {x : Option V} (h : RR T F H S w s) (hk : parOk i s = true) : RR T F H (S.set i x) w s := by
  cases s with
  | im d => exact h
  | fr d => trivial
  | bo k π =>
    obtain ⟨u, z1, z2⟩ := h
    have hne : k ≠ i := by simpa [parOk] using hk
    exact ⟨u, by rw [List.getElem?_set_ne (Ne.symm hne)]; exact z1, z2⟩
theorem ss_par3 [NoSg T] {ta tb tc : TE} {ma mb mc : ME} (i j l : Nat) (ha : SE T W n ta ma) (hb : SE T W n tb mb) (hc : SE T W n tc mc) (hi : i < n := by decide) (hj : j < n := by decide) (hl : l < n := by decide) : SS T W n (tPar3 i j l (tCons ta (tCons tb (tCons tc tNil)))) (mPar3 i j l ma mb mc) := fun F H σ τ ρ Φ D hn I q => by
  refine sas_then (sa_cons ha (sa_cons hb (sa_cons hc sa_nil))) hn I q fun vs ll ρ1 F1 H1 s1 I1 r1 q1 => ?_
  cases r1 with
  | nil => exact q1.elim
  | cons rv r1 =>
    cases r1 with
    | nil => exact q1.elim
    | cons ro r1 =>
      cases r1 with
      | nil => exact q1.elim
      | cons rt r1 =>
        cases r1 with
        | cons _ _ => exact q1.elim
        | nil =>
          rename_i v r w s y t
          have q1 : SPost T W n F1 τ Φ D (if (parOk i s && (parOk i t && parOk j t)) = true then par3b j l s t (setRv i r ρ1) else .st) := q1
          by_cases hk : (parOk i s && (parOk i t && parOk j t)) = true
          · rw [if_pos hk] at q1
            obtain ⟨k1, k23⟩ := Bool.and_eq_true_iff.mp hk
            obtain ⟨k2, k3⟩ := Bool.and_eq_true_iff.mp k23
            cases e1 : setRv i r ρ1 with
            | none => rw [e1] at q1; exact q1.elim
            | some ρ2 =>
              rw [e1] at q1
              have q1 : SPost T W n F1 τ Φ D (par3c l t (setRv j s ρ2)) := q1
              have I2 := set_rv I1.three rv e1
              cases e2 : setRv j s ρ2 with
              | none => rw [e2] at q1; exact q1.elim
              | some ρ3 =>
                rw [e2] at q1
                have q1 : SPost T W n F1 τ Φ D (optS (setRv l t ρ3)) := q1
                have I3 := set_rv I2 (ro.setOk k1) e2
                cases e3 : setRv l t ρ3 with
                | none => rw [e3] at q1; exact q1.elim
                | some ρ4 =>
                  rw [e3] at q1
                  have I4 := set_rv (X := []) (by rw [List.append_nil]; exact I3) ((rt.setOk k2).setOk k3) e3
                  rw [set_app (by rw [hn]; exact hi), set_app (by rw [List.length_set, hn]; exact hj), set_app (by rw [List.length_set, List.length_set, hn]; exact hl)] at I4
                  exact ⟨v, w, y, rfl, q1 _ F1 H1 (Same.refl F1) (by rw [List.length_set, List.length_set, List.length_set]; exact hn) I4⟩
          · rw [if_neg hk] at q1; exact q1.elim
/-- some roots are put aside, and come back -/
theorem En.hide (I : En T F S ρ Φ (X ++ Y) H) : ∃ Dd : List Addr, En T F S ρ (frmC H Φ Dd Φ.io) Y H ∧
    ∀ {F' H' : Hp} {S' : List (Option V)} {ρ' : Rho} {Z : Rts}, Same F F' → En T F' S' ρ' (frmC H Φ Dd Φ.io) Z H' → En T F' S' ρ' Φ (X ++ Z) H' := by
  have q := I.rt
  rw [List.append_assoc] at q
  obtain ⟨A, r, nd, f⟩ := q
  obtain ⟨AX, AY, rfl, r1, r2⟩ := r.split
  obtain ⟨n1, n2, n3⟩ := List.nodup_append.mp nd
  have hD : ∀ a ∈ AX, (∃ o, H a = some o) ∧ F a = none ∧ Φ a = none := fun a ha => by
    obtain ⟨o, e, _⟩ := r1.dom a ha
    exact ⟨⟨o, e⟩, f a (List.mem_append_left _ ha)⟩
  refine ⟨AX, ⟨I.fh, I.lo, I.len, I.sg, fun a o e => ?_, I.sl, ⟨AY, r2, n2, fun a ha => ⟨(f a (List.mem_append_right _ ha)).1, ?_⟩⟩, I.io, I.lk, fun a e => ?_⟩, fun {F' H' S' ρ' Z} s1 I' => ?_⟩
  · by_cases ha : a ∈ AX
    · rw [frmC_in ha] at e; exact ⟨e, (hD a ha).2.1⟩
    · rw [frmC_out ha] at e; exact I.ph a o e
  · rw [frmC_out fun z => n3 a z a ha rfl]
    exact (f a (List.mem_append_right _ ha)).2
  · rcases I.lkx a e with z | z
    · by_cases ha : a ∈ AX
      · exact absurd (hD a ha).2.2 z
      · exact .inl (by rw [frmC_out ha]; exact z)
    · exact .inr z
  · have kD : ∀ a ∈ AX, H' a = H a ∧ F' a = none := fun a ha => by
      obtain ⟨⟨o, e⟩, _⟩ := hD a ha
      have q := I'.ph a o (by rw [frmC_in ha]; exact e)
      exact ⟨by rw [q.1, e], q.2⟩
    obtain ⟨A', r', nd', f'⟩ := I'.rt
    have out : ∀ a ∈ A', a ∉ AX ∧ Φ a = none := fun a ha => by
      have z := (f' a ha).2
      by_cases hc : a ∈ AX
      · obtain ⟨⟨o, e⟩, _⟩ := hD a hc
        rw [frmC_in hc, e] at z
        cases z
      · rw [frmC_out hc] at z; exact ⟨hc, z⟩
    refine ⟨I'.fh, I'.lo, I'.len, I'.sg, fun a o e => ?_, I'.sl, ?_, I'.io, I'.lk, fun a e => ?_⟩
    · have ha : a ∉ AX := fun z => by rw [(hD a z).2.2] at e; cases e
      exact I'.ph a o (by rw [frmC_out ha]; exact e)
    · rw [List.append_assoc]
      refine ⟨AX ++ A', (r1.keep s1 fun a ha => (kD a ha).1).app r', List.nodup_append.mpr ⟨n1, nd', fun a ha b hb z => by subst z; exact (out a hb).1 ha⟩, fun a ha => ?_⟩
      rcases List.mem_append.mp ha with z | z
      · exact ⟨(kD a z).2, (hD a z).2.2⟩
      · exact ⟨(f' a z).1, (out a z).2⟩
    · rcases I.lkx a e with z | z
      · exact .inl z
      · refine .inr fun y => ?_
        cases x : F a with
        | none => exact z x
        | some o => rw [s1 a o x] at y; cases y
theorem sg_put [NoSg T] {to ti : TE} {mo mi : ME} (ho : SE T (fun _ _ _ _ => False) n to mo) (hi : SE T (fun _ _ _ _ => False) n ti mi) : SG T n [] (gSub to ti rSetA) (gPut mo mi) := fun F H σ τ ρ Φ X v r ρ' Q hn I rr e q => by
  have e : (if r.free = true then gPut1 r (aCons mo (aCons mi aNil) ρ) else none) = some ρ' := e
  by_cases hf : r.free = true
  · rw [if_pos hf] at e
    obtain ⟨Dd, I0, back⟩ := En.hide (X := r.rts v ++ X) (Y := []) (by rw [List.append_nil]; exact I)
    refine (sa_cons ho (sa_cons hi sa_nil)) F H σ τ ρ _ (on2 fun o i H2 => rSetA o i v H2 fun H3 => Q σ H3) hn I0 ?_
    cases em : aCons mo (aCons mi aNil) ρ with
    | st => rw [em] at e; cases e
    | ex c w ρ1 => rw [em] at e; cases e
    | ok as ρ1 =>
      rw [em] at e
      intro vs tv F1 H1 s1 I1 a1
      have e : gPut1b r (ρ1.frontK (nTp as)) (rvs ρ1 (ρ1.length - nTp as) (ρ1.length - nTp as) as) = some ρ' := e
      cases er : rvs ρ1 (ρ1.length - nTp as) (ρ1.length - nTp as) as with
      | none => rw [er] at e; cases e
      | some l =>
        rw [er] at e
        obtain ⟨I2, r2⟩ := fetch_ok I1 a1 er I0.sg I0.hio
        rw [List.append_nil] at I2
        have e : gPut2 r (ρ1.frontK (nTp as)) l = some ρ' := e
        cases r2 with
        | nil => cases e
        | cons rx r2 =>
          cases r2 with
          | nil => cases e
          | cons ry r2 =>
            cases r2 with
            | cons _ _ => cases e
            | nil =>
              rename_i o x i y _
              have e : gPut3 r x (ρ1.frontK (nTp as)) (datR (ρ1.frontK (nTp as)) y) = some ρ' := e
              have I2 := I2.two
              cases hy : datR (ρ1.frontK (nTp as)) y with
              | none => rw [hy] at e; cases e
              | some ey =>
                rw [hy] at e
                have hri := ry.readR (I2.permX List.perm_append_comm) hy
                have I3 := back s1 I2
                rw [List.append_assoc] at I3
                have rr1 : RR T F1 H1 (σ ++ τ) v r := by
                  cases r with
                  | im d => exact Rep.mono s1 rr
                  | fr d => trivial
                  | bo _ _ => cases hf
                exact setIx_core I3 rr1 rx hri e fun F' H' s4 I4 => q σ F' H' (s1.trans s4) hn (fun _ _ => rfl) I4.keepL
  · rw [if_neg hf] at e; cases e
theorem trL_split : ∀ {vs : List V} {ds : List Py} {B : List Addr} (i : Nat), TrL T F H vs ds B → ∃ B1 B2, B = B1 ++ B2 ∧ TrL T F H (vs.take i) (ds.take i) B1 ∧ TrL T F H (vs.drop i) (ds.drop i) B2
  | _, _, B, 0, h => ⟨[], B, rfl, .nil, h⟩
  | _, _, _, _ + 1, .nil => ⟨[], [], rfl, .nil, .nil⟩
  | _, _, _, i + 1, .cons (A := A) h r => by
    obtain ⟨B1, B2, e, r1, r2⟩ := trL_split i r
    exact ⟨A ++ B1, B2, by rw [e, List.append_assoc], .cons h r1, r2⟩
theorem bm_insert : BMok T rIns opInsert := fun {W F H σ τ ρ Φ Q x xs y l} I rx rl q => by
  cases rl with
  | nil => exact q.elim
  | cons ri rl =>
    cases rl with
    | nil => exact q.elim
    | cons ry rl =>
      cases rl with
      | cons _ _ => exact q.elim
      | nil =>
        rename_i vi si v r
        cases si with
        | fr _ => exact q.elim
        | bo _ _ => exact q.elim
        | im d =>
          cases d with
          | int i =>
            have q : EPost T W F σ τ Φ Q (ins1 y i (itm ρ r)) := q
            have I0 : En T F (σ ++ τ) ρ Φ (r.rts v ++ y.rts x) H := I.permX (by
              show (y.rts x ++ ([] ++ (r.rts v ++ []))).Perm _
              rw [List.append_nil, List.nil_append]; exact List.perm_append_comm)
            cases ei : itm ρ r with
            | none => rw [ei] at q; exact q.elim
            | some z =>
              obtain ⟨k, ρ1⟩ := z
              rw [ei] at q
              obtain ⟨F', s1, I1⟩ := itm_ok I0 ry ei
              have rx' : RR T F' H (σ ++ τ) x y := rx.mono s1 fun a o e => ⟨o, e, rfl⟩
              have q : EPost T W F σ τ Φ Q (ins2 ρ1 i k (rcv ρ1 y)) := q
              cases ec : rcv ρ1 y with
              | none => rw [ec] at q; exact q.elim
              | some c =>
                rw [ec] at q
                obtain ⟨u, p, ob, h, _⟩ := rcv_ok I1 rx' ec
                have q : EPost T W F σ τ Φ Q (ins3 ρ1 c i k c.d) := q
                have sh := h.sh
                cases ed : c.d with
                | lst l =>
                  rw [ed] at q sh
                  cases sh with
                  | lst =>
                    rename_i xs
                    have hl : xs.length = l.length := by have := h.ln; rw [ed] at this; exact this
                    have q : EPost T W F σ τ Φ Q (if l.length < sizeLine ∧ 0 ≤ i ∧ i < 2 ^ 63 then .ok (.im .non) (c.wr ρ1 (.lst (l.take i.toNat ++ [k] ++ l.drop i.toNat)) fun m => decide (m < i.toNat) && decide (m < l.length)) else .st) := q
                    by_cases hz : l.length < sizeLine ∧ 0 ≤ i ∧ i < 2 ^ 63
                    · rw [if_pos hz] at q
                      have I2 : En T F' (σ ++ τ) (c.wr ρ1 (.lst (l.take i.toNat ++ [k] ++ l.drop i.toNat)) fun m => decide (m < i.toNat) && decide (m < l.length)) Φ ([] ++ y.rts x) (upd H p (.lst (xs.take i.toNat ++ [v] ++ xs.drop i.toNat))) := En.write (Z := [(v, k)]) (R := []) I1 h.sl h.va h.ge h.mu h.at' h.hp .lst rfl (fun m hm => by
                        obtain ⟨z1, z2⟩ := Bool.and_eq_true_iff.mp hm
                        have z1 := of_decide_eq_true z1
                        have z2 := of_decide_eq_true z2
                        show (xs.take i.toNat ++ [v] ++ xs.drop i.toNat)[m]? = xs[m]?
                        rw [List.append_assoc, List.getElem?_append_left (by rw [List.length_take]; omega), List.getElem?_take, if_pos z1]) fun B C tB tC => by
                        cases tC with
                        | cons tk r0 =>
                          cases r0
                          rename_i C
                          rw [ed] at tB
                          obtain ⟨B1, B2, eB, t1, t2⟩ := trL_split i.toNat tB
                          refine ⟨B1 ++ (C ++ []) ++ B2, [], (t1.append (.cons tk .nil)).append t2, .nil, ?_⟩
                          simp only [List.append_nil]
                          rw [eB]
                          refine Sub.of ?_
                          rw [List.append_assoc, List.append_assoc]
                          exact List.Perm.append_left B1 List.perm_append_comm
                      have rv := Rep.int_eq (show Rep T F vi (.int i) from ri)
                      exact ⟨p, xs, i, v, h.eq, by rw [rv], h.hp, by omega, hz.2.1, hz.2.2, q .non F' _ s1 I2.dropAll .non⟩
                    · rw [if_neg hz] at q; exact q.elim
                | _ => rw [ed] at q; exact q.elim
          | _ => exact q.elim
end
end Mr
/-! Dp: sum, sorted of ints -/
namespace Mr
open PySem L2
def intsOf : List Py → Option (List Int)
  | [] => some []
  | .int x :: l => (intsOf l).map (x :: ·)
  | _ => none
def insI (a : Int) : List Int → List Int
  | [] => [a]
  | b :: l => if a ≤ b then a :: b :: l else b :: insI a l
def sortI : List Int → List Int
  | [] => []
  | a :: l => insI a (sortI l)
theorem insI_perm (a : Int) : ∀ l : List Int, (insI a l).Perm (a :: l)
  | [] => List.Perm.refl _
  | b :: l => by
    show (if a ≤ b then a :: b :: l else b :: insI a l).Perm _
    by_cases h : a ≤ b
    · rw [if_pos h]
    · rw [if_neg h]; exact ((insI_perm a l).cons b).trans (List.Perm.swap a b l)
theorem sortI_perm : ∀ l : List Int, (sortI l).Perm l
  | [] => List.Perm.refl _
  | a :: l => (insI_perm a (sortI l)).trans ((sortI_perm l).cons a)
theorem insI_srt (a : Int) : ∀ {l : List Int}, l.Pairwise (· ≤ ·) → (insI a l).Pairwise (· ≤ ·)
  | [], _ => List.pairwise_singleton _ _
  | b :: l, h => by
    have hb := List.pairwise_cons.mp h
    show (if a ≤ b then a :: b :: l else b :: insI a l).Pairwise _
    by_cases z : a ≤ b
    · rw [if_pos z]
      refine List.pairwise_cons.mpr ⟨fun c hc => ?_, h⟩
      rcases List.mem_cons.mp hc with y | y
      · rw [y]; exact z
      · exact Int.le_trans z (hb.1 c y)
    · rw [if_neg z]
      refine List.pairwise_cons.mpr ⟨fun c hc => ?_, insI_srt a hb.2⟩
      rcases List.mem_cons.mp ((insI_perm a l).mem_iff.mp hc) with y | y
      · rw [y]; omega
      · exact hb.1 c y
theorem sortI_srt : ∀ l : List Int, (sortI l).Pairwise (· ≤ ·)
  | [] => List.Pairwise.nil
  | a :: l => insI_srt a (sortI_srt l)
theorem srt_one : ∀ {l m : List Int}, l.Perm m → l.Pairwise (· ≤ ·) → m.Pairwise (· ≤ ·) → l = m
  | [], m, p, _, _ => (List.Perm.nil_eq p)
  | a :: l, [], p, _, _ => by have := p.length_eq; cases this
  | a :: l, b :: m, p, h1, h2 => by
    have h1' := List.pairwise_cons.mp h1
    have h2' := List.pairwise_cons.mp h2
    have e : a = b := by
      have m1 : a ∈ b :: m := p.mem_iff.mp List.mem_cons_self
      have m2 : b ∈ a :: l := p.mem_iff.mpr List.mem_cons_self
      rcases List.mem_cons.mp m1 with y | y
      · exact y
      · rcases List.mem_cons.mp m2 with z | z
        · exact z.symm
        · have := h1'.1 b z; have := h2'.1 a y; omega
    subst e
    rw [srt_one (List.Perm.cons_inv p) h1'.2 h2'.2]
section
variable {T : Tb} {F H : Hp} {v : V}
theorem ints_rep : ∀ {xs : List V} {l : List Py} {ys : List Int}, RepL T F xs l → intsOf l = some ys → xs = ys.map V.int
  | _, _, _, .nil, h => by cases h; rfl
  | _, _, ys, .cons (d := d) (ds := ds) r rr, h => by
    cases d <;> try (cases h; done)
    rename_i x
    have h : (intsOf ds).map (x :: ·) = some ys := h
    cases e : intsOf ds with
    | none => rw [e] at h; cases h
    | some zs =>
      rw [e] at h
      cases h
      cases r
      rw [ints_rep rr e]
      rfl
theorem rep_ints2 (F : Hp) : ∀ ys : List Int, RepL T F (ys.map V.int) (ys.map Py.int)
  | [] => .nil
  | y :: ys => .cons (.int y) (rep_ints2 F ys)
def sumO : Option (List Int) → OV
  | some ns => .im (.int ns.sum)
  | none => .st
def pySum : Py → OV
  | .lst l => sumO (intsOf l)
  | .scr l => sumO (intsOf l)
  | _ => .st
def srtO : Option (List Int) → OV
  | some ns => .fr (.lst ((sortI ns).map Py.int))
  | none => .st
def pySortI : Py → OV
  | .lst l => srtO (intsOf l)
  | .scr l => srtO (intsOf l)
  | _ => .st
theorem kc_sum : RCk T (rSum T.K) (one pySum) := kc_one fun F H x d Q fh px q => by
  have go : ∀ {a : Addr} {xs : List V} {l : List Py}, x = .ref a → SqL T.K H a xs → RepL T F xs l → Give T F H Q (sumO (intsOf l)) → rSum T.K [x] H Q := fun {a xs l} ex hs r q => by
    cases e : intsOf l with
    | none => rw [e] at q; exact q.elim
    | some ns =>
      rw [e] at q
      have z := ints_rep r e
      subst z
      subst ex
      exact ⟨a, ns, rfl, hs, Give.int q⟩
  cases d <;> try exact q.elim
  · obtain ⟨p, xs, ex, hp, r⟩ := px.lst fh
    exact go ex (.inl (.inl hp)) r q
  · obtain ⟨p, xs, ex, hp, r⟩ := px.scr fh
    exact go ex hp r q
theorem rc_sum : RCrd T (rSum T.K) (one pySum) := rdC kc_sum (one_at fun d => by
  have go : ∀ o, (sumO o).atom = true := fun o => by cases o <;> rfl
  cases d <;> first | rfl | exact go _)
theorem kc_sortI : RCk T (rSortedI T.K) (one pySortI) := kc_one fun F H x d Q fh px q => by
  have go : ∀ {a : Addr} {xs : List V} {l : List Py}, x = .ref a → SqL T.K H a xs → RepL T F xs l → Give T F H Q (srtO (intsOf l)) → rSortedI T.K [x] H Q := fun {a xs l} ex hs r q => by
    cases e : intsOf l with
    | none => rw [e] at q; exact q.elim
    | some ns =>
      rw [e] at q
      have z := ints_rep r e
      subst z
      subst ex
      refine ⟨a, ns, rfl, hs, fun ns' p pm so hn => ?_⟩
      have z := srt_one (pm.trans (sortI_perm ns).symm) so (sortI_srt ns)
      subst z
      exact Give.lst (rep_ints2 F _) q p hn
  cases d <;> try exact q.elim
  · obtain ⟨p, xs, ex, hp, r⟩ := px.lst fh
    exact go ex (.inl (.inl hp)) r q
  · obtain ⟨p, xs, ex, hp, r⟩ := px.scr fh
    exact go ex hp r q
theorem rc_sortI : RCok T (rSortedI T.K) (one pySortI) := shC kc_sortI (one_nt fun d => by
  have go : ∀ o, (srtO o).noTup := fun o => by cases o <;> trivial
  cases d <;> first | trivial | exact go _)
end
end Mr
/-! Dp: dicts: new ones, copies, keys in order, del -/
namespace Mr
open PySem L2
/-! ### {} -/
def mDNew : ME := fun ρ => .ok (.fr (.dic false [] [])) ρ
/-! ### dict(d), sorted(d) -/
def pyDictC : Py → OV
  | .dic _ ks vs => .fr (.dic false ks vs)
  | _ => .st
abbrev rDictC : List V → Hp → VK → Prop := fun xs H Q => ∃ (a : Addr) (kvs : List (Key × V)), xs = [.ref a] ∧ Rd H a (.dK kvs) ∧ ∀ p, H p = none → Q (.ref p) (upd H p (.dK kvs))
def keysI : List Key → Option (List Int)
  | [] => some []
  | .inl i :: l => (keysI l).map (i :: ·)
  | _ => none
def srtDO : Option (List Int) → OV
  | some ns => if ns.length < 64 then .fr (.lst ((sortI ns).map Py.int)) else .st
  | none => .st
def pySortA : Py → OV
  | .lst l => srtO (intsOf l)
  | .scr l => srtO (intsOf l)
  | .dic _ ks _ => srtDO (keysI ks)
  | _ => .st
abbrev rSortDI : List V → Hp → VK → Prop := fun xs H Q => ∃ (a : Addr) (kvs : List (Key × V)) (ks : List Int), xs = [.ref a] ∧ Rd H a (.dK kvs) ∧ kvs.map (·.1) = ks.map Sum.inl ∧ ks.length < 64 ∧
    ∀ (ys : List Int) (p : Addr), ys.Perm ks → ys.Pairwise (· ≤ ·) → H p = none → Q (.ref p) (upd H p (.lst (ys.map V.int)))
def rSortA (K : PySem.W.Frag) : List V → Hp → VK → Prop := fun xs H Q => rSortedI K xs H Q ∨ rSortDI xs H Q
theorem CallR.or {X : Cx} {f : Value} {r r' : List V → Hp → VK → Prop} (h : CallR X f r) (h' : CallR X f r') : CallR X f (fun xs H Q => r xs H Q ∨ r' xs H Q) := by
  intro pins s σ H xs us Q I rs q
  rcases q with q | q
  · exact h pins s σ H xs us Q I rs q
  · exact h' pins s σ H xs us Q I rs q
theorem cr_sortA {X : Cx} (hc : X.calm = true) : CallR X (.builtin "sorted") (rSortA X.K) := CallR.or cr_sortedI (call_sortedDI hc)
/-! ### del d[k] -/
def del4 (ρ : Rho) (c : Rc) (ks : List Key) (vs : List Py) : Option Nat → Option Rho
  | some n => some (c.wr ρ (.dic false (ks.eraseIdx n) (vs.eraseIdx n)) fun m => decide (m < n))
  | none => none
def del3 (ρ : Rho) (c : Rc) (k : Option Key) : Py → Option Rho
  | .dic false ks vs => del4 ρ c ks vs (ixK ks k)
  | _ => none
def del2 (ρ : Rho) (k : Option Key) : Option Rc → Option Rho
  | some c => del3 ρ c k c.d
  | none => none
def del1 (ρ : Rho) (x : Rv) : Option Py → SR
  | some e => optS (del2 ρ e.key (rcv ρ x))
  | none => .st
def delA (l : List Rv) (ρ : Rho) : SR := match l with
  | [x, y] => del1 ρ x (datR ρ y)
  | _ => .st
def mDel (md my : ME) : MS := fun ρ => aThen (aCons md (aCons my aNil) ρ) delA
section
variable {T : Tb} {W : Wx} {n : Nat} {F F1 F2 F' H H1 H2 H' : Hp} {Φ : Frm} {S τ : List (Option V)} {σ : L2.St} {ρ ρ1 ρ2 : Rho} {X Y : Rts} {v w o : V} {d k t : Py} {xs : List V} {Q : VK} {D : Ends}
theorem se_dnew : SE T W n tDNewK mDNew := fun F H σ τ ρ Φ Q hn I q p hp =>
  q (.ref p) F _ (Same.refl F) (En.alloc (items := []) (X := []) I hp (d := .dic false [] []) (o := .dK []) (.dic ⟨rfl, List.nodup_nil⟩) rfl rfl rfl) trivial
theorem rc_dictC : RCok T rDictC (one pyDictC) := shC (kc_one fun F H x d Q fh px q => by
  cases d <;> try exact q.elim
  rename_i lk ks vs
  have q : Give T F H Q (.fr (.dic false ks vs)) := q
  have go : ∀ {a : Addr} {kvs : List (Key × V)}, x = .ref a → Rd H a (.dK kvs) → (kvs.map (·.1) = ks ∧ ks.Nodup) → RepL T F (kvs.map (·.2)) vs → rDictC [x] H Q := fun {a kvs} ex hr e r => by
    subst ex
    exact ⟨a, kvs, rfl, hr, fun p hp => q p (.dK kvs) hp (.dic e) rfl r⟩
  rcases px with h | ⟨p, ex, h⟩
  · cases h with
    | dic s e r => exact go rfl (fh.rd s) e r
  · obtain ⟨kvs, s, e, r⟩ := h
    exact go ex s e r) (one_nt fun d => by cases d <;> trivial)
theorem give_ints {ns : List Int} (q : Give T F H Q (.fr (.lst (ns.map Py.int)))) (p : Addr) (hp : H p = none) : Q (.ref p) (upd H p (.lst (ns.map V.int))) := Give.lst (rep_ints2 F ns) q p hp
theorem keysI_ok : ∀ {ks : List Key} {ns : List Int}, keysI ks = some ns → ks = ns.map Sum.inl
  | [], _, e => by cases e; rfl
  | .inl i :: l, ns, e => by
    have e : (keysI l).map (i :: ·) = some ns := e
    cases h : keysI l with
    | none => rw [h] at e; cases e
    | some ms => rw [h] at e; cases e; rw [keysI_ok h]; rfl
  | .inr _ :: _, _, e => by cases e
/-- sorted(xs) of ints, sorted(d) of a dict of int keys -/
theorem rc_sortA : RCrd T (rSortA T.K) (one pySortA) := fun F H xs ds Q p => by
  have nt : (one pySortA ds).noTup := one_nt (fun d => by
    have g1 : ∀ o, (srtO o).noTup := fun o => by cases o <;> trivial
    have g2 : ∀ o, (srtDO o).noTup := fun o => by
      cases o with
      | none => trivial
      | some ns => show (if ns.length < 64 then OV.fr (.lst ((sortI ns).map Py.int)) else .st).noTup; split <;> trivial
    cases d <;> first | trivial | exact g1 _ | exact g2 _) ds
  refine ⟨nt, fun q => ?_⟩
  match ds, p, q with
  | [], _, q => exact q.elim
  | _ :: _ :: _, _, q => exact q.elim
  | [d], .cons (v := x) r .nil, q =>
    have q : Give T F H Q (pySortA d) := q
    have seq : ∀ {a : Addr} {xs : List V} {l : List Py}, x = .ref a → SqL T.K H a xs → RepL T H xs l → Give T F H Q (srtO (intsOf l)) → rSortA T.K [x] H Q := fun {a xs l} ex hs r q => by
      cases e : intsOf l with
      | none => rw [e] at q; exact q.elim
      | some ns =>
        rw [e] at q
        have z := ints_rep r e
        subst z
        subst ex
        refine .inl ⟨a, ns, rfl, hs, fun ns' p pm so hn => ?_⟩
        have z := srt_one (pm.trans (sortI_perm ns).symm) so (sortI_srt ns)
        subst z
        exact give_ints q p hn
    cases r with
    | lst hp rl => exact seq rfl (.inl (.inl hp)) rl q
    | scr hp rl => exact seq rfl hp rl q
    | dic hp e rl =>
      rename_i a kvs lk ks vs _
      have q : Give T F H Q (srtDO (keysI ks)) := q
      cases hk : keysI ks with
      | none => rw [hk] at q; exact q.elim
      | some ns =>
        rw [hk] at q
        have q : Give T F H Q (if ns.length < 64 then .fr (.lst ((sortI ns).map Py.int)) else .st) := q
        by_cases hl : ns.length < 64
        · rw [if_pos hl] at q
          refine .inr ⟨a, kvs, ns, rfl, hp, by rw [e.1, keysI_ok hk], hl, fun ns' p pm so hn => ?_⟩
          have z := srt_one (pm.trans (sortI_perm ns).symm) so (sortI_srt ns)
          subst z
          exact give_ints q p hn
        · rw [if_neg hl] at q; exact q.elim
    | _ => exact q.elim
theorem dropK_erase {q : Key} : ∀ {kvs : List (Key × V)} {n : Nat}, (kvs.map (·.1)).Nodup → ixOf (kvs.map (·.1)) q = some n → dropK kvs q = kvs.eraseIdx n
  | [], _, _, e => by cases e
  | kv :: kvs, n, nd, e => by
    have e : (if kv.1 = q then some 0 else (ixOf (kvs.map (·.1)) q).map (· + 1)) = some n := e
    have nd := List.nodup_cons.mp nd
    unfold dropK
    by_cases h : kv.1 = q
    · rw [if_pos h] at e
      cases e
      rw [List.filter_cons_of_neg (by simpa using h), List.eraseIdx_cons_zero]
      refine List.filter_eq_self.mpr fun x hx => ?_
      refine decide_eq_true fun z => nd.1 ?_
      show kv.1 ∈ kvs.map (·.1)
      rw [h, ← z]
      exact List.mem_map_of_mem (f := (·.1)) hx
    · rw [if_neg h] at e
      cases e2 : ixOf (kvs.map (·.1)) q with
      | none => rw [e2] at e; cases e
      | some m =>
        rw [e2] at e
        cases e
        have ih := dropK_erase nd.2 e2
        unfold dropK at ih
        rw [List.filter_cons_of_pos (by simpa using h), ih]; rfl
theorem map_erase {α β : Type} (f : α → β) : ∀ (l : List α) (n : Nat), (l.eraseIdx n).map f = (l.map f).eraseIdx n
  | [], _ => rfl
  | _ :: _, 0 => rfl
  | a :: l, n + 1 => by
    show f a :: (l.eraseIdx n).map f = f a :: (l.map f).eraseIdx n
    rw [map_erase f l n]
theorem ss_del {td ty : TE} {md my : ME} (hd : SE T W n td md) (hy : SE T W n ty my) : SS T W n (sDDel td ty) (mDel md my) := fun F H σ τ ρ Φ D hn I q => by
  refine sas_then (Q' := on2 fun x y H2 => ∃ a kvs k, x = .ref a ∧ H2 a = some (.dK kvs) ∧ y = kV k ∧ (valV kvs k).isSome = true ∧ D.nx σ (upd H2 a (.dK (dropK kvs k)))) (sa_cons hd (sa_cons hy sa_nil)) hn I q fun vs l ρ1 F1 H1 s1 I1 r1 q1 => ?_
  cases r1 with
  | nil => exact q1.elim
  | cons rx r1 =>
    cases r1 with
    | nil => exact q1.elim
    | cons ry r1 =>
      cases r1 with
      | cons _ _ => exact q1.elim
      | nil =>
        rename_i o x i y
        have q1 : SPost T W n F1 τ Φ D (del1 ρ1 x (datR ρ1 y)) := q1
        have I1 := I1.two
        cases hy : datR ρ1 y with
        | none => rw [hy] at q1; exact q1.elim
        | some e =>
          rw [hy] at q1
          have hri := ry.readR (I1.permX List.perm_append_comm) hy
          have q1 : SPost T W n F1 τ Φ D (optS (del2 ρ1 e.key (rcv ρ1 x))) := q1
          cases ec : rcv ρ1 x with
          | none => rw [ec] at q1; exact q1.elim
          | some c =>
            rw [ec] at q1
            obtain ⟨u, p, ob, h, _⟩ := rcv_ok I1 rx ec
            have q1 : SPost T W n F1 τ Φ D (optS (del3 ρ1 c e.key c.d)) := q1
            have sh := h.sh
            cases ed : c.d with
            | dic lk ks vs =>
              rw [ed] at q1 sh
              cases sh with
              | dicL _ => exact q1.elim
              | dic ek =>
                rename_i kvs
                obtain ⟨ek, nd⟩ := ek
                subst ek
                have q1 : SPost T W n F1 τ Φ D (optS (del4 ρ1 c (kvs.map (·.1)) vs (ixK (kvs.map (·.1)) e.key))) := q1
                cases hk : e.key with
                | none => rw [hk] at q1; exact q1.elim
                | some k =>
                  rw [hk] at q1
                  have q1 : SPost T W n F1 τ Φ D (optS (del4 ρ1 c (kvs.map (·.1)) vs (ixOf (kvs.map (·.1)) k))) := q1
                  cases ho : ixOf (kvs.map (·.1)) k with
                  | none => rw [ho] at q1; exact q1.elim
                  | some m =>
                    rw [ho] at q1
                    have de := dropK_erase nd ho
                    have hl : (kvs.map (·.2)).length = vs.length := by have := h.ln; rw [ed] at this; exact this
                    have lt : m < (kvs.map (·.1)).length := (List.getElem?_eq_some_iff.mp (ixOf_lt ho)).1
                    rw [List.length_map] at lt hl
                    obtain ⟨kk, hkk⟩ : ∃ kk, vs[m]? = some kk := ⟨_, List.getElem?_eq_getElem (by omega)⟩
                    have nd' : ((kvs.map (·.1)).eraseIdx m).Nodup := nd.sublist (List.eraseIdx_sublist _ _)
                    obtain ⟨w, hw, I2⟩ := I1.takeKid h (o' := .dK (dropK kvs k)) (d' := .dic false ((kvs.map (·.1)).eraseIdx m) (vs.eraseIdx m)) (k := kk) (j := m) (keep := fun j => decide (j < m)) (.dic ⟨by rw [de, map_erase], nd'⟩) rfl (by rw [ed]; exact hkk)
                      (by show (dropK kvs k).map (·.2) = (kvs.map (·.2)).eraseIdx m; rw [de, map_erase]) (by rw [ed]; rfl) fun j hj => of_decide_eq_true hj
                    have hsome : (valV kvs k).isSome = true := by rw [ixOf_isSome rfl, ho]; rfl
                    exact ⟨p, kvs, k, h.eq, h.hp, hri.key hk, hsome, q1 σ F1 _ (Same.refl F1) hn I2.dropAll⟩
            | _ => rw [ed] at q1; exact q1.elim
end
end Mr
/-! Dp: objects of the program's classes -/
namespace Mr
open PySem L2

def isObjO (c : Nat) (m : Str) : Option Py → Bool
  | some (.obj c' ks _) => c' == c && (ixOf ks m).isNone
  | _ => false
def isObj (c : Nat) (m : Str) (ρ : Rho) (r : Rv) : Bool := isObjO c m (datR ρ r)
def tRcv (C : Addr) (m : Str) (te : TE) : TE := fun σ H Q => te σ H fun x H1 => ∃ a dx fs, x = .ref a ∧ H1 a = some (.ins C dx fs) ∧ fs.lookup m = none ∧ Q x H1
/-- o.m(..) -/
def mMeth (c : Nat) (m : Str) (dm : DM) (ds : List Py) (mo : ME) (ma : MA) : ME := fun ρ => aBind (aCons (mChk (isObj c m) mo) ma ρ) fun rs ρ' => callR dm ρ' (rs ++ ds.map .im)
/-- C(..) -/
def make2 (n : Nat) (ρ : Rho) : Option Rv → ER
  | some r => .ok r (ρ.front n)
  | none => .st
def make1 (n : Nat) : ER → ER
  | .ok (.im .non) ρ => make2 n ρ (popR ρ n)
  | .ex c w ρ => .ex c w (ρ.front n)
  | _ => .st
def mMake (c : Nat) (dm : DM) (ds : List Py) (ma : MA) : ME := fun ρ => aBind (ma ρ) fun rs ρ1 => make1 ρ1.length (callR dm (ρ1 ++ [.ow false (.obj c [] [])]) (.bo ρ1.length [] :: (rs ++ ds.map .im)))
/-- e.f, a constant of the class -/
def con2 (f : Str) (cd : Nat → Option Py) (ρ : Rho) : Option Py → ER
  | some (.obj c ks _) => (match cd c with
    | some d => if (ixOf ks f).isNone = true then .ok (.im d) ρ else .st
    | none => .st)
  | _ => .st
def mCon (f : Str) (cd : Nat → Option Py) (ma : ME) : ME := fun ρ => (ma ρ).bind fun x ρ1 => con2 f cd ρ1 (datR ρ1 x)
section
variable {T : Tb} {W : Wx} {n : Nat} {F F1 F2 F' H H1 H2 H' : Hp} {Φ : Frm} {S τ : List (Option V)} {σ : L2.St} {ρ ρ1 ρ2 : Rho} {X Y : Rts} {v w o : V} {d k t : Py} {A B : List Addr} {xs : List V} {Q : VK} {D : Ends}
theorem isObj_ok {c : Nat} {m : Str} {r : Rv} (I : En T F S ρ Φ (r.rts v) H) (h : RR T F H S v r) (e : isObj c m ρ r = true) : ∃ a dx fs, v = .ref a ∧ H a = some (.ins (T.cls c) dx fs) ∧ fs.lookup m = none := by
  unfold isObj at e
  cases hx : datR ρ r with
  | none => rw [hx] at e; cases e
  | some d =>
    rw [hx] at e
    cases d with
    | obj c' ks vs =>
      have e : (c' == c && (ixOf ks m).isNone) = true := e
      obtain ⟨z1, z2⟩ := Bool.and_eq_true_iff.mp e
      have z1 := eq_of_beq z1
      subst z1
      obtain ⟨xs, ⟨a, dx, fs, y1, y2, y3, y4⟩, _⟩ := view_ok (X := []) (by rw [List.append_nil]; exact I) h hx rfl
      refine ⟨a, dx, fs, y1, y2, ?_⟩
      rw [ixOf_look, y3, Option.isNone_iff_eq_none.mp z2]; rfl
    | _ => cases e
theorem se_rcv {c : Nat} {m : Str} {te : TE} {mo : ME} (h : SE T W n te mo) : SE T W n (tRcv (T.cls c) m te) (mChk (isObj c m) mo) := se_chk (fun x H1 => ∃ a dx fs, x = .ref a ∧ H1 a = some (.ins (T.cls c) dx fs) ∧ fs.lookup m = none) h isObj_ok fun σ H Q => by
  refine congrArg (te σ H) (funext fun x => funext fun H1 => propext ⟨fun ⟨⟨a, dx, fs, e1, e2, e3⟩, q⟩ => ⟨a, dx, fs, e1, e2, e3, q⟩, fun ⟨a, dx, fs, e1, e2, e3, q⟩ => ⟨⟨a, dx, fs, e1, e2, e3⟩, q⟩⟩)
/-- a method of an object of one's own class -/
theorem se_meth [NoSg T] {c : Nat} {m : Str} {dm : DM} {ta : TE} {t : TA} {mo : ME} {ma : MA} {dvs : List V} {ds : List Py} {E : XK} (hE : ∀ c d σ H', W c d σ H' → E c d H') (hd : Dfl T dvs ds) (ho : SE T W n ta mo) (ha : SA T W n t ma) : SE T W n (tMeth (T.cls c) m (spM T dm) dvs E ta t) (mMeth c m dm ds mo ma) := fun F H σ τ ρ Φ Q hn I q =>
  sa_then (Q' := fun vs H2 => spM T dm (vs ++ dvs) H2 Q E) (sa_cons (se_rcv (c := c) (m := m) ho) ha) hn I q fun vs l ρ1 F1 H1 s1 I1 r1 q1 => call_dfl (fun c d H' => hE c d σ H') hd I1 r1 q1
theorem se_con {f : Str} {cd : Nat → Option Py} {ta : TE} {ma : ME} (hc : ∀ c d, cd c = some d → Cls T.K (T.cls c) ∧ ∃ v u, Con T.K (T.cls c) f v u ∧ ∀ F, Rep T F v d) (ha : SE T W n ta ma) : SE T W n (tCon T.K ta f) (mCon f cd ma) := fun F H σ τ ρ Φ Q hn I q => by
  refine se_then ha hn I q fun v x ρ1 F1 H1 s1 I1 r1 q1 => ?_
  cases hx : datR ρ1 x with
  | none => rw [hx] at q1; exact q1.elim
  | some d =>
    rw [hx] at q1
    cases d with
    | obj c ks vs =>
      have q1 : EPost T W F1 σ τ Φ Q (match cd c with | some d => if (ixOf ks f).isNone = true then .ok (.im d) ρ1 else .st | none => .st) := q1
      cases hd : cd c with
      | none => rw [hd] at q1; exact q1.elim
      | some d =>
        rw [hd] at q1
        have q1 : EPost T W F1 σ τ Φ Q (if (ixOf ks f).isNone = true then .ok (.im d) ρ1 else .st) := q1
        by_cases hk : (ixOf ks f).isNone = true
        · rw [if_pos hk] at q1
          obtain ⟨xs, ⟨a, dx, fs, y1, y2, y3, y4⟩, _⟩ := view_ok (X := []) (by rw [List.append_nil]; exact I1) r1 hx rfl
          obtain ⟨c1, u, w, c2, c3⟩ := hc c d hd
          refine ⟨a, _, dx, fs, u, w, y1, y2, c1, c2, ?_, q1 u F1 H1 (Same.refl F1) I1.dropAll (c3 F1)⟩
          rw [ixOf_look, y3, Option.isNone_iff_eq_none.mp hk]; rfl
        · rw [if_neg hk] at q1; exact q1.elim
    | _ => exact q1.elim
/-- a new object of one's own class -/
theorem se_make [NoSg T] {c : Nat} {dm : DM} {t : TA} {ma : MA} {dvs : List V} {ds : List Py} {E : XK} (hE : ∀ c d σ H', W c d σ H' → E c d H') (hd : Dfl T dvs ds) (ha : SA T W n t ma) : SE T W n (tMake (T.cls c) (spM T dm) dvs E t) (mMake c dm ds ma) := fun F H σ τ ρ Φ Q hn I q => by
  refine sa_then ha hn I q fun vs rs ρ1 F1 H1 s1 I1 r1 q1 => ?_
  intro x dx hx hdx hne
  have hx' : (upd H1 dx (.own x)) x = none := by rw [upd_ne (fun z => hne z.symm)]; exact hx
  have I2 := I1.grow (o := .own x) hdx
  have I3 := En.alloc (items := []) (X := rtsL vs rs) I2 hx' (d := .obj c [] []) (o := .ins (T.cls c) dx []) (.obj rfl) rfl rfl rfl
  have k2 : KeepK H1 (upd (upd H1 dx (.own x)) x (.ins (T.cls c) dx [])) := fun a o e => by
    obtain ⟨o1, e1, z1⟩ := keepK_grow (o := .own x) hdx a o e
    obtain ⟨o2, e2, z2⟩ := keepK_grow (o := .ins (T.cls c) dx []) hx' a o1 e1
    exact ⟨o2, e2, z2.trans z1⟩
  have el : ρ1.length = (σ ++ τ).length := I1.len.symm
  have I4 := En.push (v := .ref x) (r := .fr (.obj c [] [])) I3 trivial
  rw [List.append_assoc] at I4
  have hr : RRL T F1 (upd (upd H1 dx (.own x)) x (.ins (T.cls c) dx [])) (σ ++ (τ ++ [some (.ref x)])) vs rs := by
    have r2 : ∀ {vs : List V} {rs : List Rv}, RRL T F1 H1 (σ ++ τ) vs rs → RRL T F1 (upd (upd H1 dx (.own x)) x (.ins (T.cls c) dx [])) (σ ++ (τ ++ [some (.ref x)])) vs rs := fun {vs rs} r => by
      rw [← List.append_assoc]
      induction r with
      | nil => exact .nil
      | cons a _ ih => exact .cons (a.mono (Same.refl _) k2).app ih
    exact r2 r1
  have hself : RR T F1 (upd (upd H1 dx (.own x)) x (.ins (T.cls c) dx [])) (σ ++ (τ ++ [some (.ref x)])) (.ref x) (.bo ρ1.length []) := ⟨.ref x, by
    rw [← List.append_assoc, el, List.getElem?_append_right (Nat.le_refl _), Nat.sub_self]; rfl, rfl⟩
  have q1 : EPost T W F1 σ τ Φ Q (make1 ρ1.length (callR dm (ρ1 ++ [.ow false (.obj c [] [])]) (.bo ρ1.length [] :: (rs ++ ds.map .im)))) := q1
  refine call_dfl (τ := τ ++ [some (.ref x)]) (rs := .bo ρ1.length [] :: rs) (vs := .ref x :: vs) (ρ := ρ1 ++ [.ow false (.obj c [] [])]) (fun c d H' => hE c d σ H') hd I4 (.cons hself hr) ?_
  show EPost T W F1 σ (τ ++ [some (.ref x)]) Φ _ (callR dm (ρ1 ++ [.ow false (.obj c [] [])]) (.bo ρ1.length [] :: (rs ++ ds.map .im)))
  cases e : callR dm (ρ1 ++ [.ow false (.obj c [] [])]) (.bo ρ1.length [] :: (rs ++ ds.map .im)) with
  | st => rw [e] at q1; exact q1.elim
  | ex c' w ρ' =>
    rw [e] at q1
    exact fun d u F' H' ex I2 => q1 d u F' H' ex (En.front el (by rw [List.append_assoc]; exact I2) I.sg I.hio)
  | ok r ρ' =>
    rw [e] at q1
    cases r with
    | fr _ => exact q1.elim
    | bo _ _ => exact q1.elim
    | im d =>
      cases d with
      | non =>
        have q1 : EPost T W F1 σ τ Φ Q (make2 ρ1.length ρ' (popR ρ' ρ1.length)) := q1
        intro v F' H' s2 I5 r5
        cases ep : popR ρ' ρ1.length with
        | none => rw [ep] at q1; exact q1.elim
        | some r' =>
          rw [ep] at q1
          obtain ⟨I6, r6⟩ := En.pop (X := []) el (by rw [List.append_assoc]; exact I5) ep I.sg I.hio
          rw [List.append_nil] at I6
          refine ⟨by cases r5; rfl, q1 _ F' H' s2 I6 r6⟩
      | _ => exact q1.elim
/-! ### a.f op= e -/
def augF1 (f : Py → Py → OV) (me : ME) (nm : Str) (okc : Nat → Bool) (x : Rv) (ρ : Rho) : Option Py → ER
  | some (.obj c ks vs) => aug2 f me .non x (fun _ => putFd nm fun c' => c' == c && okc c) (fld2 nm okc ρ x (some (.obj c ks vs)))
  | _ => .st
def mAugFd (f : Py → Py → OV) (nm : Str) (okc : Nat → Bool) (mo me : ME) : MS := fun ρ => (mo ρ).then fun x ρ1 => augS (augF1 f me nm okc x ρ1 (datR ρ1 x))
theorem ss_augFd {nm : Str} {okc : Nat → Bool} {ta tv : TE} {mo me : ME} {rd : V → V → Hp → VK → Prop} {f : Py → Py → OV} (hc : ∀ c, okc c = true → Cls T.K (T.cls c) ∧ NoAttr T.K (T.cls c) nm) (hr : R2rd T rd f) (ho : SE T W n ta mo) (he : SE T W n tv me) : SS T W n (sFldAug T.K ta tv rd nm) (mAugFd f nm okc mo me) := fun F H σ τ ρ Φ D hn I q => by
  refine ss_then ho hn I q fun o x ρ1 F1 H1 s1 I1 ro q1 => ?_
  have q1 := augS_post hn q1
  cases hx : datR ρ1 x with
  | none => rw [hx] at q1; exact q1.elim
  | some d =>
    rw [hx] at q1
    cases d with
    | obj c ks vs =>
      have q1 : EPost T W F1 σ τ Φ (fun _ H' => D.nx σ H') (aug2 f me .non x (fun _ => putFd nm fun c' => c' == c && okc c) (if okc c = true then kidAt ρ1 x (.obj c ks vs) (ixOf ks nm) else .st)) := q1
      by_cases hk : okc c = true
      · rw [if_pos hk] at q1
        rcases kid_ok (ρ := ρ1) (r := x) (d := .obj c ks vs) (o := ixOf ks nm) with ⟨r', z⟩ | z
        · rw [z] at q1
          cases r' with
          | fr _ => exact q1.elim
          | bo _ _ => exact q1.elim
          | im a =>
            obtain ⟨xs, m, w, y1, ⟨a0, dx, fs, y2, y3, y4, y5⟩, y6, y7, _, y8, ra⟩ := kid_get (X := []) (by rw [List.append_nil]; exact I1) ro hx rfl z
            subst y2
            obtain ⟨c1, c2⟩ := hc c hk
            refine ⟨a0, _, dx, fs, w, rfl, y3, c1, c2, by rw [ixOf_look, y4, y5, y1]; exact y7, ?_⟩
            refine pend_then he hn I1 ro q1 fun w2 x' zr ρ2 F2 H2 s2 I2 r2 r3 q2 => ?_
            cases hz : datR ρ2 zr with
            | none => rw [hz] at q2; exact q2.elim
            | some b =>
              rw [hz] at q2
              have q2 : EPost T W F2 σ τ Φ (fun _ H' => D.nx σ H') (augO .non x' ρ2 (fun _ => putFd nm fun c' => c' == c && okc c) (f a b)) := q2
              have hb := r3.readR (I2.permX List.perm_append_comm) hz
              have ha : Rep T H2 w a := (Rep.mono s2 ra).monoS I2.fh
              refine (hr F2 H2 w w2 a b _ ha hb).2 ?_
              cases hof : f a b with
              | st => rw [hof] at q2; exact q2.elim
              | fr _ => rw [hof] at q2; exact q2.elim
              | im e =>
                rw [hof] at q2
                have q2 : EPost T W F2 σ τ Φ (fun _ H' => D.nx σ H') (optE (store ρ2 x' (.im e) (putFd nm fun c' => c' == c && okc c))) := q2
                have I2' : En T F2 (σ ++ τ) ρ2 Φ (x'.rts (.ref a0)) H2 := I2.keepL
                cases es : store ρ2 x' (.im e) (putFd nm fun c' => c' == c && okc c) with
                | none => rw [es] at q2; exact q2.elim
                | some ρ3 =>
                  rw [es] at q2
                  have q3 : ∀ (F' H' : Hp), Same F2 F' → En T F' (σ ++ τ) ρ3 Φ [] H' → D.nx σ H' := fun F' H' s I => q2 .non F' H' s I .non
                  have go : ∀ {F3 H3 : Hp} (u : V), Same F2 F3 → En T F3 (σ ++ τ) ρ2 Φ (x'.rts (.ref a0)) H3 → RR T F3 H3 (σ ++ τ) (.ref a0) x' → Rep T F3 u e → ∃ dx' fs', H3 a0 = some (.ins (T.cls c) dx' fs') ∧ fs'.length < 1000 ∧ D.nx σ (upd H3 a0 (.ins (T.cls c) dx' (putF nm u fs'))) := fun {F3 H3} u s3 I3 rx ru => by
                    obtain ⟨F', k, d, d', n', p, ob, s4, e1, hp, sh, hl, hg, fin⟩ := store_ok (r := .im e) I3 ru rx es
                    cases e1
                    cases sh with
                    | obj ek =>
                      rename_i dx2 fs2 c' ks' vs'
                      have hc' : c' = c := by
                        have hg : (if ((c' == c && okc c) && decide (ks'.length < 1000)) = true then putF1 c' ks' vs' nm k (ixOf ks' nm) else none) = some (n', d') := hg
                        by_cases hz : ((c' == c && okc c) && decide (ks'.length < 1000)) = true
                        · exact eq_of_beq (Bool.and_eq_true_iff.mp (Bool.and_eq_true_iff.mp hz).1).1
                        · rw [if_neg hz] at hg; cases hg
                      subst hc'
                      exact setFd_core (r := .im e) (fun c'' h => by
                        have h := Bool.and_eq_true_iff.mp h
                        have := eq_of_beq h.1
                        subst this
                        exact hc _ h.2) I3 ru rx es fun a' C' dx' fs' g1 g2 g3 g4 g5 ⟨F4, s5, I5⟩ => by
                          cases g1
                          rw [hp] at g2
                          cases g2
                          exact ⟨dx2, fs2, hp, g5, q3 F4 _ (s3.trans s5) I5.dropAll⟩
                    | _ => cases hg
                  refine ⟨fun u ru => go u (Same.refl F2) I2' r2 ru, fun ds xs p ed hp rl => ?_⟩
                  subst ed
                  obtain ⟨F3, s3, I3, r3'⟩ := I2'.tup hp rl
                  exact go _ s3 I3 (r2.mono s3 (keepK_grow hp)) r3'
        · rw [z] at q1; exact q1.elim
      · rw [if_neg hk] at q1; exact q1.elim
    | _ => exact q1.elim
end
end Mr
/-! Dp: loops over data that stay, loops over one's own lists, while -/
namespace Mr
open PySem PySem.Spec PyProof.Rows L2

/-! ### what is put to what stays, to be walked -/
def frzB (ρ : Rho) (i : Nat) (π : List Nat) : Option Py → Option (Py × Rho)
  | some d => if d.imm = true then some (d, ρ) else some (d.plain, ρ.stayA i π)
  | none => none
def frz1 (ρ : Rho) : Rv → Option (Py × Rho)
  | .im d => some (d, ρ)
  | .fr d => some (d, ρ)
  | .bo i π => frzB ρ i π (datR ρ (.bo i π))
def frzs2 (d : Py) : Option (List Py × Rho) → Option (List Py × Rho)
  | some (ds, ρ) => some (d :: ds, ρ)
  | none => none
def frzs1 (f : Rho → Option (List Py × Rho)) : Option (Py × Rho) → Option (List Py × Rho)
  | some (d, ρ) => frzs2 d (f ρ)
  | none => none
def frzs : List Rv → Rho → Option (List Py × Rho)
  | [], ρ => some ([], ρ)
  | r :: rs, ρ => frzs1 (frzs rs) (frz1 ρ r)
/-! ### what a loop walks -/
/-- the turns give the items -/
def ItOk (T : Tb) (J : It) (F : Hp) (items : List Py) : Prop := ∀ (i : Nat) (F1 H1 : Hp), Same F F1 → Sm F1 H1 →
  (∀ d, items[i]? = some d → J.go i H1 ∧ ∀ x H2, J.yld i H1 x H2 → ∀ S ρ Φ X, En T F1 S ρ Φ X H1 → ∃ F2, Same F1 F2 ∧ En T F2 S ρ Φ X H2 ∧ Rep T F2 x d) ∧ (items.length = i → J.stop i H1)
inductive IR where
  | ok (items : List Py) (ρ : Rho)
  | ex (c : Nat) (w : Py) (ρ : Rho)
  | st
abbrev MI := Rho → IR
def IPost (T : Tb) (W : Wx) (F : Hp) (σ : L2.St) (τ : List (Option V)) (Φ : Frm) (R : It → Hp → Prop) : IR → Prop
  | .ok items ρ' => ∀ J F' H', Same F F' → En T F' (σ ++ τ) ρ' Φ [] H' → ItOk T J F' items → R J H'
  | .ex c w ρ' => ∀ d v F' H', Same F F' → En T F' (σ ++ τ) ρ' Φ [] H' → Rep T F' v w → H' d = some (.xd [("what", v)]) → F' d = none → Φ d = none → W (.ref (T.cls c)) (some d) σ H'
  | .st => False
def SI (T : Tb) (W : Wx) (n : Nat) (wi : TI) (mi : MI) : Prop := ∀ (F H : Hp) (σ : L2.St) (τ : List (Option V)) (ρ : Rho) (Φ : Frm) (R : It → Hp → Prop), σ.length = n → En T F (σ ++ τ) ρ Φ [] H → IPost T W F σ τ Φ R (mi ρ) → wi σ H R
def ER.thenI (x : ER) (k : Rv → Rho → IR) : IR := match x with
  | .ok r ρ => k r ρ
  | .ex c w ρ => .ex c w ρ
  | .st => .st
/-- the items of a list, a tuple; a text's signs -/
def itemsOf : Py → Option (List Py)
  | .lst l => some l
  | .scr l => some l
  | .tup l => some l
  | .str z => some (z.cps.toList.map fun c => .str ⟨#[c]⟩)
  | _ => none
def iAny2 (ρ : Rho) : Option (List Py) → IR
  | some items => .ok items ρ
  | none => .st
def iAny1 : Option (Py × Rho) → IR
  | some (d, ρ) => iAny2 ρ (itemsOf d)
  | none => .st
def iAny (m : ME) : MI := fun ρ => (m ρ).thenI fun r ρ1 => iAny1 (frz1 ρ1 r)
def iSeq (K : PySem.W.Frag) (te : TE) : TI := fun σ H R => iList K te σ H R ∨ iTup K te σ H R ∨ iStr te σ H R
theorem piOr {X : Cx} {tg e : Expr} {w w' : TI} (h : PI X tg e w) (h' : PI X tg e w') : PI X tg e (fun σ H R => w σ H R ∨ w' σ H R) :=
  ⟨fun pins s σ H R I q => q.elim (h.run pins s σ H R I) (h'.run pins s σ H R I)⟩
theorem pi_seq {X : Cx} {tg e : Expr} {te : TE} (h : PE X e te) : PI X tg e (iSeq X.K te) := piOr (pi_list h) (piOr (pi_tup h) (pi_str h))
section
variable {T : Tb} {W : Wx} {n : Nat} {F F1 F2 F' H H1 H2 H' : Hp} {Φ : Frm} {S τ : List (Option V)} {σ : L2.St} {ρ ρ1 ρ2 : Rho} {X Y : Rts} {v w o : V} {d k t : Py} {A B : List Addr} {xs : List V} {Q : VK} {D : Ends}
theorem frz1_ok {r : Rv} (I : En T F S ρ Φ (r.rts v ++ X) H) (h : RR T F H S v r) (e : frz1 ρ r = some (d, ρ1)) : ∃ F', Same F F' ∧ En T F' S ρ1 Φ X H ∧ Rep T F' v d := by
  cases r with
  | im d' => cases e; exact ⟨F, Same.refl F, I, h⟩
  | fr d' =>
    cases e
    exact En.stayX I
  | bo i π =>
    have e : frzB ρ i π (datR ρ (.bo i π)) = some (d, ρ1) := e
    cases q : datR ρ (.bo i π) with
    | none => rw [q] at e; cases e
    | some d' =>
      rw [q] at e
      have e : (if d'.imm = true then some (d', ρ) else some (d'.plain, ρ.stayA i π)) = some (d, ρ1) := e
      by_cases z : d'.imm = true
      · rw [if_pos z] at e
        cases e
        exact ⟨F, Same.refl F, I, imm_bo I h q z⟩
      · rw [if_neg z] at e
        cases e
        obtain ⟨F', ex, I', rp⟩ := stay_bo I h q
        exact ⟨F', ex, I', rp.plain⟩
theorem frzs_ok : ∀ {rs : List Rv} {vs : List V} {ds : List Py} {F : Hp} {ρ ρ1 : Rho}, En T F S ρ Φ (rtsL vs rs ++ X) H → RRL T F H S vs rs → frzs rs ρ = some (ds, ρ1) → ∃ F', Same F F' ∧ En T F' S ρ1 Φ X H ∧ RepL T F' vs ds
  | [], _, _, F, _, _, I, h, e => by cases h; cases e; exact ⟨F, Same.refl F, I, .nil⟩
  | r :: rs, _, _, F, ρ, ρ1, I, h, e => by
    cases h with
    | cons h t =>
      rename_i v vs
      have e : frzs1 (frzs rs) (frz1 ρ r) = some (_, ρ1) := e
      cases q : frz1 ρ r with
      | none => rw [q] at e; cases e
      | some z =>
        obtain ⟨d, ρ2⟩ := z
        rw [q] at e
        have e : frzs2 d (frzs rs ρ2) = some (_, ρ1) := e
        cases q2 : frzs rs ρ2 with
        | none => rw [q2] at e; cases e
        | some z =>
          obtain ⟨ds, ρ3⟩ := z
          rw [q2] at e
          cases e
          have I : En T F S ρ Φ (r.rts v ++ (rtsL vs rs ++ X)) H := by rw [← List.append_assoc]; exact I
          obtain ⟨F2, s2, I2, h2⟩ := frz1_ok I h q
          obtain ⟨F3, s3, I3, h3⟩ := frzs_ok I2 (t.mono s2) q2
          exact ⟨F3, s2.trans s3, I3, .cons (Rep.mono s3 h2) h3⟩
theorem si_then {te : TE} {m : ME} (h : SE T W n te m) (hn : σ.length = n) (I : En T F (σ ++ τ) ρ Φ [] H) {R : It → Hp → Prop} {k : Rv → Rho → IR} {Q' : VK} (q : IPost T W F σ τ Φ R ((m ρ).thenI k))
    (next : ∀ v r ρ1 F1 H1, m ρ = .ok r ρ1 → Same F F1 → En T F1 (σ ++ τ) ρ1 Φ (r.rts v) H1 → RR T F1 H1 (σ ++ τ) v r → IPost T W F σ τ Φ R (k r ρ1) → Q' v H1) : te σ H Q' := by
  refine h F H σ τ ρ Φ Q' hn I ?_
  cases e : m ρ with
  | st => rw [e] at q; exact q
  | ex c w ρ' => rw [e] at q; exact q
  | ok r ρ1 =>
    rw [e] at q
    exact fun v F1 H1 s1 I1 r1 => next v r ρ1 F1 H1 e s1 I1 r1 q
theorem smList {a : Addr} {xs : List V} (s : Sm F1 H1) (e : Same F F1) (h : SqL T.K F a xs) : SqL T.K H1 a xs := sm_l s (sm_l (Sm.of e) h)
theorem smTup {a : Addr} {xs : List V} (s : Sm F1 H1) (e : Same F F1) (h : SqT T.K F a xs) : SqT T.K H1 a xs := sm_t s (sm_t (Sm.of e) h)
theorem it_list {a : Addr} {xs : List V} {l : List Py} (hs : SqL T.K F a xs) (r : RepL T F xs l) : ItOk T (Itl T.K a) F l := fun i F1 H1 e s =>
  ⟨fun d h => by
    obtain ⟨v, hv, rv⟩ := r.get h
    refine ⟨⟨xs, v, smList s e hs, hv⟩, fun x H2 y S ρ Φ X I => ?_⟩
    obtain ⟨eH, y⟩ := y
    subst eH
    have ex := (y xs (smList s e hs)).symm.trans hv
    cases ex
    exact ⟨F1, Same.refl F1, I, rv.mono e⟩, fun hl => ⟨xs, smList s e hs, by rw [r.length, hl]; exact Nat.le_refl _⟩⟩
theorem it_tup {a : Addr} {xs : List V} {l : List Py} (hs : SqT T.K F a xs) (r : RepL T F xs l) : ItOk T (Itt T.K a) F l := fun i F1 H1 e s =>
  ⟨fun d h => by
    obtain ⟨v, hv, rv⟩ := r.get h
    refine ⟨⟨xs, v, smTup s e hs, hv⟩, fun x H2 y S ρ Φ X I => ?_⟩
    obtain ⟨eH, y⟩ := y
    subst eH
    have ex := (y xs (smTup s e hs)).symm.trans hv
    cases ex
    exact ⟨F1, Same.refl F1, I, rv.mono e⟩, fun hl => ⟨xs, smTup s e hs, by rw [r.length, hl]; exact Nat.le_refl _⟩⟩
theorem it_str {z : Str} : ItOk T (Its z) F (z.cps.toList.map fun c => .str ⟨#[c]⟩) := fun i F1 H1 e s =>
  ⟨fun d h => by
    rw [List.getElem?_map] at h
    cases hc : z.cps.toList[i]? with
    | none => rw [hc] at h; cases h
    | some c =>
      rw [hc] at h
      cases h
      have hc' : z.cps[i]? = some c := by simpa using hc
      refine ⟨(Array.getElem?_eq_some_iff.mp hc').1, fun x H2 y S ρ Φ X I => ?_⟩
      obtain ⟨eH, c2, h2, ex⟩ := y
      subst eH ex
      rw [hc'] at h2
      cases h2
      exact ⟨F1, Same.refl F1, I, .str _⟩, fun hl => by
    rw [List.length_map, Array.length_toList] at hl
    exact Nat.le_of_eq hl⟩
theorem si_any {te : TE} {m : ME} (h : SE T W n te m) : SI T W n (iSeq T.K te) (iAny m) := fun F H σ τ ρ Φ R hn I q => by
  -- what is walked is told by the mirror
  cases hm : m ρ with
  | st => unfold iAny at q; rw [hm] at q; exact q.elim
  | ex c w ρ' =>
    unfold iAny at q
    rw [hm] at q
    refine .inl (h F H σ τ ρ Φ _ hn I ?_)
    rw [hm]
    exact q
  | ok r0 ρ0 =>
    have q0 : IPost T W F σ τ Φ R (iAny1 (frz1 ρ0 r0)) := by unfold iAny at q; rw [hm] at q; exact q
    cases hf : frz1 ρ0 r0 with
    | none => rw [hf] at q0; exact q0.elim
    | some z =>
      obtain ⟨d, ρ2⟩ := z
      rw [hf] at q0
      have q0 : IPost T W F σ τ Φ R (iAny2 ρ2 (itemsOf d)) := q0
      cases hi : itemsOf d with
      | none => rw [hi] at q0; exact q0.elim
      | some items =>
        rw [hi] at q0
        have use : ∀ {Q' : VK}, (∀ v F1 H1, Sm F1 H1 → Rep T F1 v d → (∀ J, ItOk T J F1 items → R J H1) → Q' v H1) → te σ H Q' := fun {Q'} next => by
          refine h F H σ τ ρ Φ Q' hn I ?_
          rw [hm]
          intro v F1 H1 s1 I1 r1
          obtain ⟨F2, s2, I2, r2⟩ := frz1_ok (X := []) (by rw [List.append_nil]; exact I1) r1 hf
          exact next v F2 H1 I2.fh r2 fun J ok => q0 J F2 H1 (s1.trans s2) I2 ok
        cases d with
        | lst l =>
          cases hi
          refine .inl (use fun v F1 H1 fh r k => ?_)
          cases r with
          | lst hs rl => exact ⟨_, rfl, ⟨_, .inl (.inl (fh.plain hs (fun z => z)))⟩, k _ (it_list (.inl (.inl hs)) rl)⟩
        | scr l =>
          cases hi
          refine .inl (use fun v F1 H1 fh r k => ?_)
          cases r with
          | scr hs rl => exact ⟨_, rfl, ⟨_, sm_l fh hs⟩, k _ (it_list hs rl)⟩
        | tup l =>
          cases hi
          refine .inr (.inl (use fun v F1 H1 fh r k => ?_))
          cases r with
          | tup hs rl => exact ⟨_, rfl, ⟨_, sm_t fh hs⟩, k _ (it_tup hs rl)⟩
        | str z =>
          cases hi
          refine .inr (.inr (use fun v F1 H1 fh r k => ?_))
          cases r
          exact ⟨z, rfl, k _ it_str⟩
        | _ => cases hi
/-! ### for, over data that stay -/
def forM (mg : MG) (mb : MS) : List Py → MS
  | [], ρ => .nx ρ
  | d :: ds, ρ => match mg (.im d.unfz) ρ with
    | none => .st
    | some ρ1 => match mb ρ1 with
      | .nx ρ2 => forM mg mb ds ρ2
      | .ct ρ2 => forM mg mb ds ρ2
      | .bk ρ2 => .nx ρ2
      | x => x
def mFor (mi : MI) (mg : MG) (mb : MS) : MS := fun ρ => match mi ρ with
  | .ok items ρ1 => forM mg mb items ρ1
  | .ex c w ρ1 => .ex c w ρ1
  | .st => .st
theorem ss_for {ts : List Nat} {wi : TI} {g : TG} {tb : TS} {mi : MI} {mg : MG} {mb : MS} (hi : SI T W n wi mi) (hg : SG T n ts g mg) (hb : SS T W n tb mb) : SS T W n (tFor wi g tb) (mFor mi mg mb) := fun F H σ τ ρ Φ D hn I q => by
  refine hi F H σ τ ρ Φ _ hn I ?_
  unfold mFor at q
  cases e : mi ρ with
  | st => rw [e] at q; exact q
  | ex c w ρ' =>
    rw [e] at q
    exact fun d v F' H' f I rr hd hn1 hF => q d v σ F' H' f hn I rr hd hn1 hF
  | ok items ρ1 =>
    rw [e] at q
    intro J F1 H1 s1 I1 ok
    refine ⟨fun i m σ' H' => m = items.length - i ∧ i ≤ items.length ∧ ∃ F' ρ', σ'.length = n ∧ En T F' (σ' ++ τ) ρ' Φ [] H' ∧ Same F1 F' ∧ SPost T W n F' τ Φ D (forM mg mb (items.drop i) ρ'), ⟨items.length, by omega, by omega, F1, ρ1, hn, I1, Same.refl _, SPost.mono s1 q⟩, ?_⟩
    rintro i m σ' H' ⟨rfl, hi, F', ρ', hn', I', e', q'⟩
    by_cases hl : i < items.length
    · refine .inr ?_
      have hd : items[i]? = some items[i] := List.getElem?_eq_getElem hl
      have dr : items.drop i = items[i] :: items.drop (i + 1) := List.drop_eq_getElem_cons hl
      rw [dr] at q'
      obtain ⟨go, yl⟩ := (ok i F' H' e' I'.fh).1 _ hd
      refine ⟨go, fun σ2 H2 => ∃ F2 ρ2, σ2.length = n ∧ En T F2 (σ2 ++ τ) ρ2 Φ [] H2 ∧ Same F1 F2 ∧ SPost T W n F2 τ Φ D (forM mg mb (items.drop (i + 1)) ρ2), fun σ2 H2 h => ⟨items.length - (i + 1), by omega, rfl, hl, h⟩, fun x H2 y => ?_⟩
      obtain ⟨F2, s2, I2, r2⟩ := yl x H2 y _ _ _ _ I'
      have q2 : SPost T W n F2 τ Φ D (match mg (.im items[i].unfz) ρ' with
        | none => .st
        | some ρ1 => match mb ρ1 with
          | .nx ρ2 => forM mg mb (items.drop (i + 1)) ρ2
          | .ct ρ2 => forM mg mb (items.drop (i + 1)) ρ2
          | .bk ρ2 => .nx ρ2
          | x => x) := SPost.mono s2 q'
      cases hgm : mg (.im items[i].unfz) ρ' with
      | none => rw [hgm] at q2; exact q2.elim
      | some ρ3 =>
        rw [hgm] at q2
        refine hg F2 H2 σ' τ ρ' Φ [] x (.im items[i].unfz) ρ3 _ hn' I2 r2.unfz hgm fun σ3 F3 H3 s3 hn3 _ I3 => ?_
        have q3 := SPost.mono s3 q2
        refine hb F3 H3 σ3 τ ρ3 Φ _ hn3 I3 ?_
        cases hbm : mb ρ3 with
        | st => simp only [hbm] at q3; exact q3
        | ex c w ρ4 => simp only [hbm] at q3; exact q3
        | rt r ρ4 => simp only [hbm] at q3; exact q3
        | bk ρ4 => simp only [hbm] at q3; exact q3
        | nx ρ4 =>
          simp only [hbm] at q3
          exact fun σ4 F4 H4 s4 hn4 I4 => ⟨F4, ρ4, hn4, I4, ((e'.trans s2).trans s3).trans s4, SPost.mono s4 q3⟩
        | ct ρ4 =>
          simp only [hbm] at q3
          exact fun σ4 F4 H4 s4 hn4 I4 => ⟨F4, ρ4, hn4, I4, ((e'.trans s2).trans s3).trans s4, SPost.mono s4 q3⟩
    · refine .inl ⟨(ok i F' H' e' I'.fh).2 (by omega), ?_⟩
      rw [List.drop_eq_nil_of_le (by omega)] at q'
      exact q' σ' F' H' (Same.refl _) hn' I'
/-! ### while -/
def whileM (mt : ME) (mb : MS) : Nat → MS
  | 0, _ => .st
  | n + 1, ρ => (mt ρ).then fun r ρ1 => match r.bl? with
    | some b => if b = true then (match mb ρ1 with
      | .nx ρ2 => whileM mt mb n ρ2
      | .ct ρ2 => whileM mt mb n ρ2
      | .bk ρ2 => .nx ρ2
      | x => x) else .nx ρ1
    | none => .st
theorem ss_while {tt : TT} {tb : TS} {mt : ME} {mb : MS} (fuel : Nat) (ht : ST T W n tt mt) (hb : SS T W n tb mb) : SS T W n (tWhile tt tb) (whileM mt mb fuel) := fun F H σ τ ρ Φ D hn I q => by
  refine ⟨fun m σ' H' => ∃ F' ρ', σ'.length = n ∧ En T F' (σ' ++ τ) ρ' Φ [] H' ∧ SPost T W n F' τ Φ D (whileM mt mb m ρ'), ⟨fuel, F, ρ, hn, I, q⟩, ?_⟩
  rintro m σ' H' ⟨F', ρ', hn', I', q'⟩
  cases m with
  | zero => exact q'.elim
  | succ m =>
    refine ht F' H' σ' τ ρ' Φ _ hn' I' ?_
    have q' : SPost T W n F' τ Φ D ((mt ρ').then fun r ρ1 => match r.bl? with
      | some b => if b = true then (match mb ρ1 with
        | .nx ρ2 => whileM mt mb m ρ2
        | .ct ρ2 => whileM mt mb m ρ2
        | .bk ρ2 => .nx ρ2
        | x => x) else .nx ρ1
      | none => .st) := q'
    cases e : mt ρ' with
    | st => rw [e] at q'; exact q'
    | ex c w ρ1 => rw [e] at q'; exact fun d v F1 H1 s1 I1 => q' d v σ' F1 H1 s1 hn' I1
    | ok r ρ1 =>
      rw [e] at q'
      have q' : SPost T W n F' τ Φ D (match r.bl? with
        | some b => if b = true then (match mb ρ1 with
          | .nx ρ2 => whileM mt mb m ρ2
          | .ct ρ2 => whileM mt mb m ρ2
          | .bk ρ2 => .nx ρ2
          | x => x) else .nx ρ1
        | none => .st) := q'
      cases hb1 : r.bl? with
      | none => rw [hb1] at q'; exact q'.elim
      | some b =>
        rw [hb1] at q'
        have hr : r = .im (.bl b) := by
          cases r with
          | im d => cases d <;> cases hb1; rfl
          | fr _ => cases hb1
          | bo _ _ => cases hb1
        refine ⟨b, hr, fun F1 H1 s1 I1 => ?_⟩
        cases b with
        | false => exact q' σ' F1 H1 s1 hn' I1
        | true =>
          refine ⟨fun σ2 H2 => ∃ F2 ρ2, σ2.length = n ∧ En T F2 (σ2 ++ τ) ρ2 Φ [] H2 ∧ SPost T W n F2 τ Φ D (whileM mt mb m ρ2), fun σ2 H2 h => ⟨m, by omega, h⟩, ?_⟩
          have q2 : SPost T W n F1 τ Φ D (match mb ρ1 with
            | .nx ρ2 => whileM mt mb m ρ2
            | .ct ρ2 => whileM mt mb m ρ2
            | .bk ρ2 => .nx ρ2
            | x => x) := SPost.mono s1 q'
          refine hb F1 H1 σ' τ ρ1 Φ _ hn' I1 ?_
          cases hbm : mb ρ1 with
          | st => rw [hbm] at q2; exact q2
          | ex c w ρ4 => rw [hbm] at q2; exact q2
          | rt r ρ4 => rw [hbm] at q2; exact q2
          | bk ρ4 => rw [hbm] at q2; exact q2
          | nx ρ4 =>
            rw [hbm] at q2
            exact fun σ4 F4 H4 s4 hn4 I4 => ⟨F4, ρ4, hn4, I4, SPost.mono s4 q2⟩
          | ct ρ4 =>
            rw [hbm] at q2
            exact fun σ4 F4 H4 s4 hn4 I4 => ⟨F4, ρ4, hn4, I4, SPost.mono s4 q2⟩
end
end Mr
/-! enumerate(t) of a tuple, for a loop with two targets -/
namespace Mr
open PySem PySem.Spec PyProof.Rows L2
abbrev nIt (t : Addr) : Obj := { cls := .type "tuple_iterator", data := .fields #[.ref t, .int 0 0] }
abbrev nEn (i : Addr) : Obj := { cls := .type "enumerate", data := .fields #[.none, .bool false, .ref i, rawInt 0, .none, .none] }
set_option maxHeartbeats 1000000 in
theorem nw_tup (t : Addr) (vs : Array Value) : Meets (Builtin.«enumerate.__new__» ⟨[.type "enumerate", .ref t], []⟩) (fun _ R s => s.heap.IsTuple t vs ∧ R (.ok (.ret (.ref (s.heap.push (nIt t)).objs.size))) { s with heap := (s.heap.push (nIt t)).push (nEn s.heap.objs.size) }) := .of_wp fun prog w A R s hh => by
  obtain ⟨⟨hp, g, d, tk, os⟩, h1, h⟩ : ∃ s' : Shared, s'.heap.IsTuple t vs ∧ s' = s ∧ _ := ⟨s, hh.1, rfl, hh.2⟩
  obtain ⟨e, h⟩ := h
  subst e
  have su := sub_enumerate
  have go : ∀ {A' : Around} {E' : Value → Shared → Prop} {Q' : Value → Shared → Prop}, Q' (.ref hp.objs.size) ⟨hp.push (nIt t), g, d, tk, os⟩ → wpAny (model prog w) A' (pyIter (.ref t)) Q' E' ⟨hp, g, d, tk, os⟩ := fun q => wpAny_pyIter_tuple h1 q
  wp_walk using go
  refine wpAny_stack_any fun sk => wpAny_pure ?_
  split
  · rename_i cl _ _ _ _ _
    cases (cl == Value.type "enumerate") <;> (wp_walk using go; exact ⟨_, rfl, h⟩)
  · wp_walk using go; exact ⟨_, rfl, h⟩
section
variable {prog : Program} {w : World} {A : Around} {E : Value → Shared → Prop} {s : Shared}
theorem call_en_tup {t : Addr} {vs : Array Value} {Q : Value → Shared → Prop} (ht : s.heap.IsTuple t vs)
    (h : ∀ h', IsEnum h' (s.heap.objs.size + 1) s.heap.objs.size 0 .none → h'.IsTupleIter s.heap.objs.size t 0 → (∀ b o, s.heap.get? b = some o → h'.get? b = some o) → Q (.ref (s.heap.objs.size + 1)) { s with heap := h' }) : wpAny (model prog w) A (call (.type "enumerate") [.ref t]) Q E s := by
  refine callType_new F.called_enumerate (by decide) (F.typeCall_enumerate_1 _) (F.newCall_enumerate_1 _) (fun ob => F.args_object_init_2 ob _) F.entry_enumerate_new (nw_tup t vs) ⟨ht, ?_⟩
  have hz : (s.heap.push (nIt t)).objs.size = s.heap.objs.size + 1 := Heap.size_push ..
  show _ ∧ _
  rw [hz]
  have he : IsEnum ((s.heap.push (nIt t)).push (nEn s.heap.objs.size)) (s.heap.objs.size + 1) s.heap.objs.size 0 .none := by
    have q := Heap.get?_push_size (s.heap.push (nIt t)) (o := nEn s.heap.objs.size) rfl
    rw [hz] at q
    exact q
  exact ⟨⟨_, he, rfl⟩, h _ he ⟨_, Heap.get?_push_of_some _ (Heap.get?_push_size _ rfl), rfl, rfl⟩ fun b o x => Heap.get?_push_of_some _ (Heap.get?_push_of_some _ x)⟩
end
/-- the tuple at a, each item in a new pair -/
def Iet (K : PySem.W.Frag) (a : Addr) : It :=
  ⟨fun i H => ∃ (xs : List V) (x : V), SqT K H a xs ∧ xs[i]? = some x, fun i H v H' => ∃ p x, v = .ref p ∧ H p = none ∧ H' = upd H p (.tup [.int (i : Nat), x]) ∧ ∀ xs, SqT K H a xs → xs[i]? = some x, fun i H => ∃ xs : List V, SqT K H a xs ∧ xs.length = i⟩
theorem turn_en_tup {P : Program} {w : World} {K : PySem.W.Frag} {es : List Expr} {kk : Nat} {tpos : Pos} (a e it : Addr) (hai : a ≠ it) (hae : a ≠ e) :
    Turn P w K (.Tuple es kk tpos) (Iet K a) [e, it] e (fun i h => (∃ old, IsEnum h e it ((i : Nat) : Int) old) ∧ h.IsTupleIter it a i ∧ e ≠ it) where
  mem := List.mem_cons_self
  obj := fun i h st b hb => by
    obtain ⟨⟨old, he⟩, ⟨o, ho, hc, hd⟩, _⟩ := st
    rcases List.mem_cons.mp hb with z | z
    · rw [z]; exact ⟨_, he, fun c k => nomatch k⟩
    · exact ⟨o, (List.mem_singleton.mp z) ▸ ho, fun v q => by rw [hd] at q; cases q⟩
  keep := fun i h h' st k => ⟨st.1.elim fun old he => ⟨old, k e List.mem_cons_self _ he⟩, st.2.1.at fun o q => k it (List.mem_cons_of_mem _ List.mem_cons_self) o q, st.2.2⟩
  item := by
    intro X hP hw hK hc i pins s σ H E I hf st hg
    subst hP hw hK
    obtain ⟨⟨old, he⟩, hit, hne⟩ := st
    obtain ⟨xs, x, hq, hx⟩ := hg
    obtain ⟨its, rv, p, hz⟩ := I.tuple hq
    obtain ⟨u, hu, ru⟩ := rv.get hx
    have hel : e < s.heap.objs.size := Heap.lt_size he
    have hil : it < s.heap.objs.size := hit.elim fun _ q => Heap.lt_size q.1
    have pt : s.heap.IsTuple a its.toArray := p
    have li : i < its.toArray.size := by
      rw [List.size_toArray]
      exact (List.getElem?_eq_some_iff.mp hu).1
    refine wpAny_pyNext_enum_itemD (D := Draws.tuple (prog := X.prog) (w := X.w) (A := X.A.in1) (I.ok.hd hc) it a hai its.toArray) he ⟨hit, pt⟩ li hne (fun z => ?_) fun y h1 tk hy ho hs hT hsz hk => ?_
    · rcases List.mem_cons.mp z with z | z
      · exact hne z
      · exact hae (List.mem_singleton.mp z).symm
    have ey : y = u := by
      rw [show its.toArray[i]? = some u by simpa using hu] at hy
      exact (Option.some.inj hy).symm
    subst ey
    refine ⟨_, rfl, wpAny_letOwnedTupleGo_enum (s := { s with heap := h1, toks := tk + 1 }) ho fun h2 he2 sb => ?_⟩
    have hT2 : h2.get? s.heap.objs.size = some { cls := .type "tuple", data := .seq #[.int i tk, y] } := (sb.2 _ (Nat.ne_of_gt hel)).trans hT
    have nw : ObjOk X.prog X.w (upd H s.heap.objs.size (.tup [.int (i : Nat), x])) h2 s.heap.objs.size (.tup [.int (i : Nat), x]) := ⟨by show 2 ≤ sizeLine; decide, [.int i tk, y], .cons ⟨_, rfl⟩ (.cons ru .nil), _, hT2, rfl, _, rfl⟩
    have I1 : Inv X pins σ (upd H s.heap.objs.size (.tup [.int (i : Nat), x])) { s with heap := h2, toks := tk + 1 } :=
      I.turnedNew (ch := [e, it]) (fun b ob hb q => (sb.2 b fun z => hb (z ▸ List.mem_cons_self)).trans (hk b ob (fun z => hb (z ▸ List.mem_cons_self)) (fun z => hb (z ▸ List.mem_cons_of_mem _ List.mem_cons_self)) q)) hf (Nat.le_refl _) nw
    refine ⟨.ref s.heap.objs.size, _, I1, rfl, ⟨_, x, rfl, I.hok.fresh (Nat.le_refl _), rfl, fun ys hy => by rw [I.tuple_inj hy hq]; exact hx⟩, ⟨⟨y, ?_⟩, hs.1.at fun o q => (sb.2 it (Ne.symm hne)).trans q, hne⟩, fun b hb => ?_⟩
    · rw [show ((i + 1 : Nat) : Int) = (i : Int) + 1 by omega]; exact he2
    · have lb : b < s.heap.objs.size := by
        rcases List.mem_cons.mp hb with z | z
        · exact z ▸ hel
        · exact (List.mem_singleton.mp z) ▸ hil
      rw [upd_ne (Nat.ne_of_lt lb)]
      exact (hf b hb).1
  done := by
    intro X hP hw hK hc i pins s σ H E I hf st hg
    subst hP hw hK
    obtain ⟨⟨old, he⟩, hit, hne⟩ := st
    obtain ⟨xs, hq, hx⟩ := hg
    obtain ⟨its, rv, p, hz⟩ := I.tuple hq
    obtain ⟨f0, f1, f2, f3, f4, f5⟩ := hf it (List.mem_cons_of_mem _ List.mem_cons_self)
    have pt : s.heap.IsTuple a its.toArray := p
    have en : its.toArray.size = i := by
      rw [List.size_toArray, ← rv.length]
      exact hx
    exact wpAny_pyNext_enum_endD (D := Draws.tuple (prog := X.prog) (w := X.w) (A := X.A.in1) (I.ok.hd hc) it a hai its.toArray) he ⟨en.symm ▸ hit, pt⟩ fun h' eb => ⟨rfl, I.turned (t' := s.toks) (fun b o hb q => eb b o hb q) f0 f1 f3 f4 f5⟩
  self := fun A i s Q E st h => st.1.elim fun _ he => wpAny_pyIter_enum he h
def iEnT (K : PySem.W.Frag) (ta : TA) : TI := fun σ H R => ta σ H fun vs H1 => ∃ a xs, vs = [.ref a] ∧ SqT K H1 a xs ∧ R (Iet K a) H1
theorem pi_enT {X : Cx} {e : Expr} {ta : TA} {p pos tpos : Pos} {es : List Expr} {kk : Nat} (hg : Gl X "enumerate") (hm : X.mg "enumerate" = none) (ha : PA X [e] ta) (hs : starEach [e] X.env = [(false, eval e X.env)] := by rfl) :
    PI X (.Tuple es kk tpos) (.Call (.Name "enumerate" p) [e] [] pos) (iEnT X.K ta) := ⟨fun pins s σ H R I h => by
  refine Call_ (ld_blt I hg hm boot_enumerate (PyProof.Rows.callWith_type1 (thn (ha.run pos pins s σ H _ I h) fun us s1 ⟨vs, H1, I1, r1, a, xs, ex, hq, q⟩ => ?_) hs rfl))
  subst ex
  cases r1 with
  | cons r rr =>
    cases rr
    cases r
    obtain ⟨its, rv, p', hz⟩ := I1.tuple hq
    have pt : s1.heap.IsTuple a its.toArray := p'
    have la : a < s1.heap.objs.size := pt.elim fun _ q => Heap.lt_size q.1
    refine call_en_tup pt fun h' he hit hk => wpAny_pyIter_enum he ?_
    have I2 : Inv X pins σ H1 { s1 with heap := h' } := I1.kept (t' := s1.toks) hk
    refine ⟨s1.heap.objs.size + 1, [s1.heap.objs.size + 1, s1.heap.objs.size], _, _, H1, rfl, I2, turn_en_tup a (s1.heap.objs.size + 1) s1.heap.objs.size (Nat.ne_of_lt la) (Nat.ne_of_lt (Nat.lt_succ_of_lt la)), ⟨⟨.none, he⟩, hit, Nat.succ_ne_self _⟩, fun b hb => ?_, q⟩
    have lb : s1.heap.objs.size ≤ b := by
      rcases List.mem_cons.mp hb with z | z
      · exact z ▸ Nat.le_succ _
      · exact (List.mem_singleton.mp z) ▸ Nat.le_refl _
    exact I1.fpOk lb (I1.hok.fresh lb)⟩
end Mr
/-! Dp: enumerate, range, reversed; comprehensions -/
namespace Mr
open PySem PySem.Spec PyProof.Rows L2

def enumL : Nat → List Py → List Py
  | _, [] => []
  | n, d :: ds => .tup [.int n, d] :: enumL (n + 1) ds
theorem enumL_len : ∀ (n : Nat) (l : List Py), (enumL n l).length = l.length
  | _, [] => rfl
  | n, _ :: ds => by
    show (enumL (n + 1) ds).length + 1 = ds.length + 1
    rw [enumL_len (n + 1) ds]
theorem enumL_get : ∀ (n : Nat) (l : List Py) (i : Nat) (d : Py), (enumL n l)[i]? = some d → ∃ e, l[i]? = some e ∧ d = .tup [.int ((n + i : Nat) : Int), e]
  | _, [], _, _, h => by cases h
  | n, e :: _, 0, _, h => ⟨e, rfl, (Option.some.inj h).symm⟩
  | n, _ :: ds, i + 1, d, h => by
    obtain ⟨e, h1, h2⟩ := enumL_get (n + 1) ds i d h
    exact ⟨e, h1, by rw [h2, show n + 1 + i = n + (i + 1) by omega]⟩
def aThenI1 (k : List Rv → Rho → IR) (ρ : Rho) : Option (List Rv) → IR
  | some l => k l ρ
  | none => .st
def aThenI (x : AR) (k : List Rv → Rho → IR) : IR := match x with
  | .ok rs ρ => aThenI1 k (ρ.frontK (nTp rs)) (rvs ρ (ρ.length - nTp rs) (ρ.length - nTp rs) rs)
  | .ex c w ρ => .ex c w ρ
  | .st => .st
def iOf2 (ρ : Rho) : Option (List Py) → IR
  | some items => .ok items ρ
  | none => .st
def iOf1 (f : List Py → Option (List Py)) : Option (List Py × Rho) → IR
  | some (ds, ρ) => iOf2 ρ (f ds)
  | none => .st
/-- an iterator over data that stay -/
def iOf (f : List Py → Option (List Py)) (m : MA) : MI := fun ρ => aThenI (m ρ) fun rs ρ1 => iOf1 f (frzs rs ρ1)
def fEnum : List Py → Option (List Py)
  | [.lst l] => some (enumL 0 l)
  | [.scr l] => some (enumL 0 l)
  | [.tup l] => some (enumL 0 l)
  | _ => none
def rEnum (K : PySem.W.Frag) : List V → Hp → (It → Hp → Prop) → Prop := fun vs H R => (∃ a xs, vs = [.ref a] ∧ SqL K H a xs ∧ R (Ite K a) H) ∨ ∃ a xs, vs = [.ref a] ∧ SqT K H a xs ∧ R (Iet K a) H
def iEn (K : PySem.W.Frag) (ta : TA) : TI := fun σ H R => ta σ H fun vs H1 => rEnum K vs H1 R
theorem pi_en {X : Cx} {e : Expr} {ta : TA} {p pos tpos : Pos} {es : List Expr} {kk : Nat} (hg : Gl X "enumerate") (hm : X.mg "enumerate" = none) (ha : PA X [e] ta) (hs : starEach [e] X.env = [(false, eval e X.env)] := by rfl) :
    PI X (.Tuple es kk tpos) (.Call (.Name "enumerate" p) [e] [] pos) (iEn X.K ta) := ⟨fun pins s σ H R I h => by
  refine Call_ (ld_blt I hg hm boot_enumerate (PyProof.Rows.callWith_type1 (thn (ha.run pos pins s σ H _ I h) fun us s1 ⟨vs, H1, I1, r1, q1⟩ => ?_) hs rfl))
  rcases q1 with ⟨a, xs, ex, hq, q⟩ | ⟨a, xs, ex, hq, q⟩
  · subst ex
    cases r1 with
    | cons r rr =>
      cases rr
      cases r
      obtain ⟨its, rv, p', hz⟩ := I1.list hq
      refine call_enumerate_list p'.isList fun h' he hit hsz hk => wpAny_pyIter_enum he ?_
      have I2 : Inv X pins σ H1 { s1 with heap := h' } := I1.kept (t' := s1.toks) hk
      refine ⟨s1.heap.objs.size + 1, [s1.heap.objs.size + 1, s1.heap.objs.size], _, _, H1, rfl, I2, turn_enum a (s1.heap.objs.size + 1) s1.heap.objs.size, ⟨⟨.none, he⟩, hit, Nat.succ_ne_self _⟩, fun b hb => ?_, q⟩
      have lb : s1.heap.objs.size ≤ b := by
        rcases List.mem_cons.mp hb with z | z
        · exact z ▸ Nat.le_succ _
        · exact (List.mem_singleton.mp z) ▸ Nat.le_refl _
      exact I1.fpOk lb (I1.hok.fresh lb)
  · subst ex
    cases r1 with
    | cons r rr =>
      cases rr
      cases r
      obtain ⟨its, rv, p', hz⟩ := I1.tuple hq
      have pt : s1.heap.IsTuple a its.toArray := p'
      have la : a < s1.heap.objs.size := pt.elim fun _ q => Heap.lt_size q.1
      refine call_en_tup pt fun h' he hit hk => wpAny_pyIter_enum he ?_
      have I2 : Inv X pins σ H1 { s1 with heap := h' } := I1.kept (t' := s1.toks) hk
      refine ⟨s1.heap.objs.size + 1, [s1.heap.objs.size + 1, s1.heap.objs.size], _, _, H1, rfl, I2, turn_en_tup a (s1.heap.objs.size + 1) s1.heap.objs.size (Nat.ne_of_lt la) (Nat.ne_of_lt (Nat.lt_succ_of_lt la)), ⟨⟨.none, he⟩, hit, Nat.succ_ne_self _⟩, fun b hb => ?_, q⟩
      have lb : s1.heap.objs.size ≤ b := by
        rcases List.mem_cons.mp hb with z | z
        · exact z ▸ Nat.le_succ _
        · exact (List.mem_singleton.mp z) ▸ Nat.le_refl _
      exact I1.fpOk lb (I1.hok.fresh lb)⟩
def rangeL (lo : Int) : Nat → List Py
  | 0 => []
  | n + 1 => .int lo :: rangeL (lo + 1) n
theorem rangeL_len : ∀ (lo : Int) (n : Nat), (rangeL lo n).length = n
  | _, 0 => rfl
  | lo, n + 1 => by
    show (rangeL (lo + 1) n).length + 1 = n + 1
    rw [rangeL_len (lo + 1) n]
theorem rangeL_get : ∀ (lo : Int) (n i : Nat) (d : Py), (rangeL lo n)[i]? = some d → i < n ∧ d = .int (lo + i)
  | _, 0, _, _, h => by cases h
  | lo, n + 1, 0, _, h => ⟨by omega, by rw [← Option.some.inj h]; simp⟩
  | lo, n + 1, i + 1, d, h => by
    obtain ⟨h1, h2⟩ := rangeL_get (lo + 1) n i d h
    exact ⟨by omega, by rw [h2]; congr 1; omega⟩
def cRg (i : Int) : Bool := decide (-(2 ^ 62) ≤ i) && decide (i < 2 ^ 62)
theorem cRg_ok {i : Int} (h : cRg i = true) : -(2 ^ 62) ≤ i ∧ i < 2 ^ 62 := by
  have := Bool.and_eq_true_iff.mp h
  exact ⟨of_decide_eq_true this.1, of_decide_eq_true this.2⟩
def fRange1 : List Py → Option (List Py)
  | [.int j] => if cRg j = true then some (rangeL 0 j.toNat) else none
  | _ => none
def fRange2 : List Py → Option (List Py)
  | [.int i, .int j] => if (cRg i && cRg j) = true then some (rangeL i (j - i).toNat) else none
  | _ => none
def rRg1 : List V → Hp → (It → Hp → Prop) → Prop := fun vs H1 R => ∃ j : Int, vs = [.int j] ∧ -(2 ^ 62) ≤ j ∧ j < 2 ^ 62 ∧ R (Itr 0 j.toNat) H1
def rRg2 : List V → Hp → (It → Hp → Prop) → Prop := fun vs H1 R => ∃ i j : Int, vs = [.int i, .int j] ∧ (-(2 ^ 62) ≤ i ∧ i < 2 ^ 62 ∧ -(2 ^ 62) ≤ j ∧ j < 2 ^ 62) ∧ R (Itr i (j - i).toNat) H1
section
variable {T : Tb} {W : Wx} {n : Nat} {F F1 F2 F' H H1 H2 H' : Hp} {Φ : Frm} {S τ : List (Option V)} {σ σ1 σ2 : L2.St} {ρ ρ1 ρ2 : Rho} {X Y : Rts} {v w o : V} {d k t : Py} {A B : List Addr} {xs : List V} {Q : VK} {D : Ends}
theorem sai_then {ta : TA} {m : MA} (h : SA T W n ta m) (hn : σ.length = n) (I : En T F (σ ++ τ) ρ Φ [] H) {R : It → Hp → Prop} {k : List Rv → Rho → IR} {Q' : List V → Hp → Prop} (q : IPost T W F σ τ Φ R (aThenI (m ρ) k))
    (next : ∀ vs l ρ1 F1 H1, Same F F1 → En T F1 (σ ++ τ) ρ1 Φ (rtsL vs l) H1 → RRL T F1 H1 (σ ++ τ) vs l → IPost T W F σ τ Φ R (k l ρ1) → Q' vs H1) : ta σ H Q' := by
  refine h F H σ τ ρ Φ _ hn I ?_
  cases e : m ρ with
  | st => rw [e] at q; exact q
  | ex c w ρ' => rw [e] at q; exact q
  | ok rs ρ1 =>
    rw [e] at q
    intro vs tv F1 H1 s1 I1 a1
    have q : IPost T W F σ τ Φ R (aThenI1 k (ρ1.frontK (nTp rs)) (rvs ρ1 (ρ1.length - nTp rs) (ρ1.length - nTp rs) rs)) := q
    cases e2 : rvs ρ1 (ρ1.length - nTp rs) (ρ1.length - nTp rs) rs with
    | none => rw [e2] at q; exact q.elim
    | some l =>
      rw [e2] at q
      obtain ⟨I2, r2⟩ := fetch_ok I1 a1 e2 I.sg I.hio
      rw [List.append_nil] at I2
      exact next vs l _ F1 H1 s1 I2 r2 q
def RIok (T : Tb) (r : List V → Hp → (It → Hp → Prop) → Prop) (f : List Py → Option (List Py)) : Prop := ∀ (F H : Hp) (vs : List V) (ds items : List Py) (R : It → Hp → Prop), Sm F H → RepL T F vs ds → f ds = some items → (∀ J, ItOk T J F items → R J H) → r vs H R
theorem si_of {r : List V → Hp → (It → Hp → Prop) → Prop} {f : List Py → Option (List Py)} {ta : TA} {m : MA} (hr : RIok T r f) (h : SA T W n ta m) : SI T W n (fun σ H R => ta σ H fun vs H1 => r vs H1 R) (iOf f m) := fun F H σ τ ρ Φ R hn I q => by
  refine sai_then h hn I q fun vs rs ρ1 F1 H1 s1 I1 r1 q1 => ?_
  cases hd : frzs rs ρ1 with
  | none => rw [hd] at q1; exact q1.elim
  | some z =>
    obtain ⟨ds, ρ2⟩ := z
    rw [hd] at q1
    have q1 : IPost T W F σ τ Φ R (iOf2 ρ2 (f ds)) := q1
    cases hi : f ds with
    | none => rw [hi] at q1; exact q1.elim
    | some items =>
      rw [hi] at q1
      obtain ⟨F2, s2, I2, r2⟩ := frzs_ok (X := []) (by rw [List.append_nil]; exact I1) r1 hd
      exact hr F2 H1 vs ds items R I2.fh r2 hi fun J ok => q1 J F2 H1 (s1.trans s2) I2 ok
theorem it_enL {a : Addr} {xs : List V} {l : List Py} (hs : SqL T.K F a xs) (r : RepL T F xs l) : ItOk T (Ite T.K a) F (enumL 0 l) := fun i F1 H1 e s =>
  ⟨fun d h => by
    obtain ⟨d2, h2, rfl⟩ := enumL_get 0 l i d h
    obtain ⟨v, hv, rv⟩ := r.get h2
    refine ⟨⟨xs, v, smList s e hs, hv⟩, fun x H2 y S ρ Φ X I => ?_⟩
    obtain ⟨p, x', rfl, hp, eH, y⟩ := y
    subst eH
    have ex := (y xs (smList s e hs)).symm.trans hv
    cases ex
    obtain ⟨F2, s2, I2, r2⟩ := I.tup (xs := [.int (i : Nat), v]) (ds := [.int ((0 + i : Nat) : Int), d2]) hp (.cons (by rw [Nat.zero_add]; exact .int _) (.cons (Rep.mono e rv) .nil))
    exact ⟨F2, s2, I2, r2⟩, fun hl => ⟨xs, smList s e hs, by rw [r.length, ← hl, enumL_len]; exact Nat.le_refl _⟩⟩
theorem it_enT {a : Addr} {xs : List V} {l : List Py} (hs : SqT T.K F a xs) (r : RepL T F xs l) : ItOk T (Iet T.K a) F (enumL 0 l) := fun i F1 H1 e s =>
  ⟨fun d h => by
    obtain ⟨d2, h2, rfl⟩ := enumL_get 0 l i d h
    obtain ⟨v, hv, rv⟩ := r.get h2
    refine ⟨⟨xs, v, smTup s e hs, hv⟩, fun x H2 y S ρ Φ X I => ?_⟩
    obtain ⟨p, x', rfl, hp, eH, y⟩ := y
    subst eH
    have ex := (y xs (smTup s e hs)).symm.trans hv
    cases ex
    obtain ⟨F2, s2, I2, r2⟩ := I.tup (xs := [.int (i : Nat), v]) (ds := [.int ((0 + i : Nat) : Int), d2]) hp (.cons (by rw [Nat.zero_add]; exact .int _) (.cons (Rep.mono e rv) .nil))
    exact ⟨F2, s2, I2, r2⟩, fun hl => ⟨xs, smTup s e hs, by rw [r.length, ← hl, enumL_len]⟩⟩
theorem ri_enum : RIok T (rEnum T.K) fEnum := fun F H vs ds items R fh r hf k => by
  match ds, r, hf with
  | [d], .cons r .nil, hf =>
    cases d <;> try (cases hf; done)
    · cases hf
      cases r with
      | tup hs rl => exact .inr ⟨_, _, rfl, sm_t fh hs, k _ (it_enT hs rl)⟩
    · cases hf
      cases r with
      | lst hs rl => exact .inl ⟨_, _, rfl, .inl (.inl (fh.plain hs (fun z => z))), k _ (it_enL (.inl (.inl hs)) rl)⟩
    · cases hf
      cases r with
      | scr hs rl => exact .inl ⟨_, _, rfl, sm_l fh hs, k _ (it_enL hs rl)⟩
  | [], _, hf => cases hf
  | d :: _ :: _, _, hf => cases d <;> cases hf
theorem si_enum {ta : TA} {m : MA} (h : SA T W n ta m) : SI T W n (iEn T.K ta) (iOf fEnum m) := si_of ri_enum h
theorem it_range {lo : Int} {n : Nat} : ItOk T (Itr lo n) F (rangeL lo n) := fun i F1 H1 e s =>
  ⟨fun d h => by
    obtain ⟨hi, rfl⟩ := rangeL_get lo n i d h
    refine ⟨hi, fun x H2 y S ρ Φ X I => ?_⟩
    obtain ⟨eH, ex⟩ := y
    subst eH ex
    exact ⟨F1, Same.refl F1, I, .int _⟩, fun hl => by
    rw [rangeL_len] at hl
    exact Nat.le_of_eq hl⟩
theorem ri_range1 : RIok T rRg1 fRange1 := fun F H vs ds items R fh r hf k => by
  match ds, r, hf with
  | [d], .cons r .nil, hf =>
    cases d <;> try (cases hf; done)
    rename_i j
    cases r
    have hf : (if cRg j = true then some (rangeL 0 j.toNat) else none) = some items := hf
    by_cases h : cRg j = true
    · rw [if_pos h] at hf
      cases hf
      exact ⟨j, rfl, (cRg_ok h).1, (cRg_ok h).2, k _ it_range⟩
    · rw [if_neg h] at hf; cases hf
  | [], _, hf => cases hf
  | d :: _ :: _, _, hf => cases d <;> cases hf
theorem ri_range2 : RIok T rRg2 fRange2 := fun F H vs ds items R fh r hf k => by
  match ds, r, hf with
  | [d, e], .cons r (.cons r2 .nil), hf =>
    cases d <;> cases e <;> try (cases hf; done)
    rename_i i j
    cases r
    cases r2
    have hf : (if (cRg i && cRg j) = true then some (rangeL i (j - i).toNat) else none) = some items := hf
    by_cases h : (cRg i && cRg j) = true
    · rw [if_pos h] at hf
      cases hf
      have h' := Bool.and_eq_true_iff.mp h
      exact ⟨i, j, rfl, ⟨(cRg_ok h'.1).1, (cRg_ok h'.1).2, (cRg_ok h'.2).1, (cRg_ok h'.2).2⟩, k _ it_range⟩
    · rw [if_neg h] at hf; cases hf
  | [], _, hf => cases hf
  | [d], _, hf => cases d <;> cases hf
  | d :: e :: _ :: _, _, hf => cases d <;> cases e <;> cases hf
theorem si_range1 {ta : TA} {m : MA} (h : SA T W n ta m) : SI T W n (iRng1 ta) (iOf fRange1 m) := si_of (r := rRg1) ri_range1 h
theorem si_range2 {ta : TA} {m : MA} (h : SA T W n ta m) : SI T W n (iRng2 ta) (iOf fRange2 m) := si_of (r := rRg2) ri_range2 h
end
end Mr
/-! Dp: list comprehensions -/
namespace Mr
open PySem PySem.Spec PyProof.Rows L2

def wipe1 (f : Rho → Option Rho) : Option Rho → Option Rho
  | some ρ => f ρ
  | none => none
def wipeO : List Nat → Rho → Option Rho
  | [], ρ => some ρ
  | i :: vs, ρ => wipe1 (wipeO vs) (setS ρ i .no)
/-- nothing is raised within a comprehension -/
abbrev W0 : Wx := fun _ _ _ _ => False
mutual
def lcM (vs : List Nat) (k0 : Nat) (mg : MG) (mt me : ME) : List Py → Rho → Option Rho
  | [], ρ => some ρ
  | d :: ds, ρ => match mg (.im d.unfz) ρ with
    | none => none
    | some ρ1 => match mt ρ1 with
      | .ok r ρ2 => (match r.bl? with
        | some true => (match me ρ2 with
          | .ok r ρ3 => wipe1 (fun ρ4 => wipe1 (lcM vs k0 mg mt me ds) (wipeO vs ρ4)) (store ρ3 (.bo k0 []) r putApp)
          | _ => none)
        | some false => wipe1 (lcM vs k0 mg mt me ds) (wipeO vs ρ2)
        | none => none)
      | _ => none
end
def mLc5 (d : Py) : Option Rho → ER
  | some ρ => .ok (.fr d) ρ
  | none => .st
def mLc4 (vs : List Nat) (ρ : Rho) : Option Rv → ER
  | some (.fr d) => mLc5 d (wipeO vs ρ)
  | _ => .st
def mLc3 (vs : List Nat) (k0 : Nat) : Option Rho → ER
  | some ρe => mLc4 vs (ρe.front k0) (popR ρe k0)
  | none => .st
def mLc2 (vs : List Nat) (mg : MG) (mt me : ME) (items : List Py) (k0 : Nat) : Option Rho → ER
  | some ρ2 => mLc3 vs k0 (lcM vs k0 mg mt me items (ρ2 ++ [.ow false (.lst [])]))
  | none => .st
def mLc1 (vs : List Nat) (mg : MG) (mt me : ME) : IR → ER
  | .ok items ρ1 => mLc2 vs mg mt me items ρ1.length (wipeO vs ρ1)
  | .ex c w ρ1 => .ex c w ρ1
  | .st => .st
def mLc (vs : List Nat) (mi : MI) (mg : MG) (mt me : ME) : ME := fun ρ => mLc1 vs mg mt me (mi ρ)
section
variable {T : Tb} {W : Wx} {n : Nat} {F F1 F2 F' H H1 H2 H' : Hp} {Φ : Frm} {S S' τ : List (Option V)} {σ σ1 σ2 : L2.St} {ρ ρ1 ρ2 ρ' : Rho} {X Y : Rts} {v w o : V} {d k t : Py} {A B : List Addr} {xs : List V} {Q : VK} {D : Ends} {vs : List Nat}
theorem ne_mem {i j : Nat} (h : i ∉ j :: vs) : j ≠ i := fun z => h (by rw [z]; exact List.mem_cons_self)
theorem wipe_get : ∀ {vs : List Nat} {i : Nat}, i ∉ vs → (wipe σ vs)[i]? = σ[i]?
  | [], _, _ => rfl
  | j :: vs, i, h => by
    show ((wipe σ vs).set j none)[i]? = σ[i]?
    rw [List.getElem?_set_ne (ne_mem h), wipe_get fun z => h (List.mem_cons_of_mem _ z)]
theorem wipe_in : ∀ {vs : List Nat} {i : Nat}, i ∈ vs → i < σ.length → (wipe σ vs)[i]? = some none
  | j :: vs, i, h, l => by
    show ((wipe σ vs).set j none)[i]? = some none
    by_cases hk : j = i
    · subst hk
      exact List.getElem?_set_self (by rw [wipe_length]; exact l)
    · rw [List.getElem?_set_ne hk]
      rcases List.mem_cons.mp h with z | z
      · exact absurd z.symm hk
      · exact wipe_in z l
theorem wipe_ext (hl : σ1.length = σ2.length) (h : ∀ i, i ∉ vs → σ1[i]? = σ2[i]?) : wipe σ1 vs = wipe σ2 vs := by
  apply List.ext_getElem?
  intro i
  by_cases hi : i ∈ vs
  · by_cases hli : i < σ1.length
    · rw [wipe_in hi hli, wipe_in hi (hl ▸ hli)]
    · rw [List.getElem?_eq_none (by rw [wipe_length]; omega), List.getElem?_eq_none (by rw [wipe_length]; omega)]
  · rw [wipe_get hi, wipe_get hi]
    exact h i hi
theorem wipe_wipe : wipe (wipe σ vs) vs = wipe σ vs := wipe_ext (by rw [wipe_length]) fun j hj => wipe_get hj
theorem setS_no {i : Nat} (e : setS ρ i .no = some ρ1) {j : Nat} (h : ρ[j]? = some .no) : ρ1[j]? = some .no := by
  obtain ⟨⟨hl, _⟩, rfl⟩ := setS_some e
  by_cases hj : i = j
  · subst hj; exact List.getElem?_set_self (by unfold Rho.kill; rw [List.length_map]; exact hl)
  · rw [List.getElem?_set_ne hj]
    unfold Rho.kill
    rw [List.getElem?_map, h]; rfl
theorem setS_al {i : Nat} (e : setS ρ i .no = some ρ1) {k j : Nat} {π : List Nat} (h : ρ1[k]? = some (.al j π)) : j ≠ i ∧ ρ[k]? = some (.al j π) := by
  obtain ⟨⟨hl, _⟩, rfl⟩ := setS_some e
  refine ⟨kill_na (fun _ _ z => by cases z) k j π h, ?_⟩
  by_cases hk : i = k
  · subst hk
    rw [List.getElem?_set_self (by unfold Rho.kill; rw [List.length_map]; exact hl)] at h
    cases h
  · rw [List.getElem?_set_ne hk] at h
    unfold Rho.kill at h
    rw [List.getElem?_map] at h
    cases h0 : ρ[k]? with
    | none => rw [h0] at h; cases h
    | some s0 =>
      rw [h0] at h
      have h := Option.some.inj h
      cases s0 with
      | al j' π' =>
        have h : (if j' = i then Sl.no else .al j' π') = .al j π := h
        by_cases hj : j' = i
        · rw [if_pos hj] at h; cases h
        · rw [if_neg hj] at h; cases h; rfl
      | _ => cases h
theorem wipeO_no : ∀ {vs : List Nat} {ρ ρ' : Rho} {j : Nat}, wipeO vs ρ = some ρ' → ρ[j]? = some .no → ρ'[j]? = some .no
  | [], _, _, _, e, h => by cases e; exact h
  | i :: vs, ρ, ρ', j, e, h => by
    have e : wipe1 (wipeO vs) (setS ρ i .no) = some ρ' := e
    cases e1 : setS ρ i .no with
    | none => rw [e1] at e; cases e
    | some ρ1 => rw [e1] at e; exact wipeO_no (vs := vs) e (setS_no e1 h)
theorem wipeO_al : ∀ {vs : List Nat} {ρ ρ' : Rho} {k j : Nat} {π : List Nat}, wipeO vs ρ = some ρ' → ρ'[k]? = some (.al j π) → j ∉ vs ∧ ρ[k]? = some (.al j π)
  | [], _, _, _, _, _, e, h => by cases e; exact ⟨List.not_mem_nil, h⟩
  | i :: vs, ρ, ρ', k, j, π, e, h => by
    have e : wipe1 (wipeO vs) (setS ρ i .no) = some ρ' := e
    cases e1 : setS ρ i .no with
    | none => rw [e1] at e; cases e
    | some ρ1 =>
      rw [e1] at e
      obtain ⟨z1, z2⟩ := wipeO_al (vs := vs) e h
      obtain ⟨z3, z4⟩ := setS_al e1 z2
      exact ⟨fun z => (List.mem_cons.mp z).elim z3 z1, z4⟩
theorem wipeO_len : ∀ {vs : List Nat} {ρ ρ' : Rho}, wipeO vs ρ = some ρ' → ρ'.length = ρ.length
  | [], _, _, e => by cases e; rfl
  | i :: vs, ρ, ρ', e => by
    have e : wipe1 (wipeO vs) (setS ρ i .no) = some ρ' := e
    cases e1 : setS ρ i .no with
    | none => rw [e1] at e; cases e
    | some ρ1 =>
      rw [e1] at e
      rw [wipeO_len (vs := vs) e]
      obtain ⟨_, rfl⟩ := setS_some e1
      rw [List.length_set]; unfold Rho.kill; rw [List.length_map]
theorem wipeO_in : ∀ {vs : List Nat} {ρ ρ' : Rho} {i : Nat}, wipeO vs ρ = some ρ' → i ∈ vs → ρ'[i]? = some .no
  | j :: vs, ρ, ρ', i, e, h => by
    have e : wipe1 (wipeO vs) (setS ρ j .no) = some ρ' := e
    cases e1 : setS ρ j .no with
    | none => rw [e1] at e; cases e
    | some ρ1 =>
      rw [e1] at e
      have e9 : wipeO vs ρ1 = some ρ' := e
      rcases List.mem_cons.mp h with z | z
      · subst z
        refine wipeO_no e9 ?_
        obtain ⟨⟨hl, _⟩, er⟩ := setS_some e1
        have hl' : i < (ρ.kill i).length := by unfold Rho.kill; rw [List.length_map]; exact hl
        rw [er]
        exact List.getElem?_set_self hl'
      · exact wipeO_in (vs := vs) e9 z
theorem wipeO_en : ∀ {vs : List Nat} {ρ ρ' : Rho} {X : Rts}, En T F S ρ Φ X H → wipeO vs ρ = some ρ' → ∃ Z, En T F S ρ' Φ (Z ++ X) H
  | [], _, _, _, I, e => by cases e; exact ⟨[], I⟩
  | i :: vs, ρ, ρ', X, I, e => by
    have e : wipe1 (wipeO vs) (setS ρ i .no) = some ρ' := e
    cases e1 : setS ρ i .no with
    | none => rw [e1] at e; cases e
    | some ρ1 =>
      rw [e1] at e
      obtain ⟨h1, h2⟩ := setS_some e1
      obtain ⟨Z, I1⟩ := I.empty h1
      rw [← h2] at I1
      obtain ⟨Z2, I2⟩ := wipeO_en (vs := vs) I1 e
      exact ⟨Z2 ++ Z, by rw [List.append_assoc]; exact I2⟩
theorem rts_re : ∀ {S S' : List (Option V)} {ρ : Rho}, S'.length = S.length → (∀ (k : Nat) s, ρ[k]? = some s → s.isOw = true → S'[k]? = S[k]?) → rts S' ρ = rts S ρ
  | [], [], _, _, _ => rfl
  | [], _ :: _, _, h, _ => by cases h
  | _ :: _, [], _, h, _ => by cases h
  | x :: S, x' :: S', [], _, _ => rfl
  | x :: S, x' :: S', s :: ρ, h, k => by
    have ih := rts_re (S := S) (S' := S') (ρ := ρ) (Nat.succ.inj h) fun j s e => k (j + 1) s e
    cases hs : s.isOw with
    | false => rw [rts_no hs, rts_no hs, ih]
    | true =>
      have e : some x' = some x := k 0 s rfl hs
      cases e
      cases s <;> try cases hs
      cases x with
      | none => rw [rts_none, rts_none, ih]
      | some w => rw [rts_ow, rts_ow, ih]
/-- slots that bear nothing may bear any values -/
theorem En.reS [hT : NoSg T] (I : En T F S ρ Φ X H) (hl : S'.length = S.length) (ag : ∀ j, j ∉ vs → S'[j]? = S[j]?) (hv : ∀ i ∈ vs, ρ[i]? = some .no) (na : ∀ (k j : Nat) π, ρ[k]? = some (.al j π) → j ∉ vs) : En T F S' ρ Φ X H := by
  have nv : ∀ {k : Nat} {s : Sl}, ρ[k]? = some s → s ≠ .no → k ∉ vs := fun {k s} e h z => by
    rw [hv k z] at e
    cases e
    exact h rfl
  refine ⟨I.fh, I.lo, by rw [hl]; exact I.len, fun s e => by (rw [hT.h] at e; cases e), I.ph, fun k s e => ?_, ?_, fun k v e => ?_, I.lk, I.lkx⟩
  · have ok := I.sl k s e
    cases s with
    | no => trivial
    | im io d => obtain ⟨w, q1, q2⟩ := ok; exact ⟨w, by rw [ag k (nv e fun z => by cases z)]; exact q1, q2⟩
    | ow io d => obtain ⟨w, q1⟩ := ok; exact ⟨w, by rw [ag k (nv e fun z => by cases z)]; exact q1⟩
    | al j π =>
      obtain ⟨w, u, q1, q2, q3⟩ := ok
      exact ⟨w, u, by rw [ag k (nv e fun z => by cases z)]; exact q1, by rw [ag j (na k j π e)]; exact q2, q3⟩
  · rw [rts_re hl fun k s e h => ag k (nv e fun z => by subst z; cases h)]
    exact I.rt
  · obtain ⟨z1, s, z2, z3⟩ := I.io k v e
    exact ⟨by rw [ag k (nv z2 fun z => by subst z; cases z3)]; exact z1, s, z2, z3⟩
theorem app_ag (hl : σ1.length = σ2.length) (h : ∀ j, j ∉ vs → σ1[j]? = σ2[j]?) : ∀ j, j ∉ vs → (σ1 ++ τ)[j]? = (σ2 ++ τ)[j]? := fun j hj => by
  by_cases z : j < σ1.length
  · rw [List.getElem?_append_left z, List.getElem?_append_left (by omega)]; exact h j hj
  · rw [List.getElem?_append_right (by omega), List.getElem?_append_right (by omega), hl]
/-- the slots vs are emptied, and bear other values -/
theorem wipe_to [NoSg T] (I : En T F (σ1 ++ τ) ρ Φ X H) (e : wipeO vs ρ = some ρ') (hl : σ2.length = σ1.length) (h : ∀ j, j ∉ vs → σ2[j]? = σ1[j]?) : En T F (σ2 ++ τ) ρ' Φ X H := by
  obtain ⟨Z, I1⟩ := wipeO_en I e
  exact I1.dropX.reS (vs := vs) (by rw [List.length_append, List.length_append, hl]) (app_ag hl h) (fun i hi => wipeO_in e hi) fun k j π z => (wipeO_al e z).1
theorem lc_loop [NoSg T] {ts : List Nat} {J : It} {g : TG} {tt : TT} {te : TE} {mg : MG} {mt me : ME} {items : List Py} {kk : Nat} {ρe : Rho} {D : Addr} {Fin : Hp → Prop} (hv : ∀ i ∈ ts, i ∈ vs) (hg : SG T n ts g mg) (ht : ST T W0 n tt mt) (he : SE T W0 n te me) (hn : σ.length = n) (k0 : kk = (wipe σ vs ++ τ).length)
    (I4 : En T F1 (wipe σ vs ++ τ ++ [some (.ref D)]) ρ1 Φ [] H1) (ok : ItOk T J F1 items) (el : lcM vs kk mg mt me items ρ1 = some ρe) (fin : ∀ F' H', Same F1 F' → En T F' (wipe σ vs ++ τ ++ [some (.ref D)]) ρe Φ [] H' → Fin H') :
    ∃ W : Nat → Nat → Hp → Prop, (∃ m, W 0 m H1) ∧ ∀ i m H, W i m H →
      (J.stop i H ∧ Fin H) ∨ (J.go i H ∧ ∃ Nx : Hp → Prop, (∀ H', Nx H' → ∃ m', m' < m ∧ W (i + 1) m' H') ∧ ∀ x H', J.yld i H x H' → g x (wipe σ vs) H' fun σ2 H2 => wipe σ2 vs = wipe σ vs ∧ tt σ2 H2 fun b H3 =>
        if b = true then te σ2 H3 fun y H4 => ∃ acc, H4 D = some (.lst acc) ∧ acc.length < sizeLine ∧ Nx (upd H4 D (.lst (acc ++ [y]))) else Nx H3) := by
  have hlw : (wipe σ vs).length = σ.length := wipe_length σ vs
  refine ⟨fun i m H' => m = items.length - i ∧ i ≤ items.length ∧ ∃ (F' : Hp) (ρ' : Rho), En T F' (wipe σ vs ++ τ ++ [some (.ref D)]) ρ' Φ [] H' ∧ Same F1 F' ∧ lcM vs kk mg mt me (items.drop i) ρ' = some ρe,
    ⟨items.length, by omega, by omega, F1, _, I4, Same.refl _, el⟩, ?_⟩
  rintro i m H' ⟨rfl, hi, F', ρ', I', e', el'⟩
  by_cases hl : i < items.length
  · refine .inr ?_
    have hd : items[i]? = some items[i] := List.getElem?_eq_getElem hl
    rw [List.drop_eq_getElem_cons hl] at el'
    obtain ⟨go, yl⟩ := (ok i F' H' e' I'.fh).1 _ hd
    refine ⟨go, fun H2 => ∃ (F' : Hp) (ρ' : Rho), En T F' (wipe σ vs ++ τ ++ [some (.ref D)]) ρ' Φ [] H2 ∧ Same F1 F' ∧ lcM vs kk mg mt me (items.drop (i + 1)) ρ' = some ρe, fun H2 h => ⟨items.length - (i + 1), by omega, rfl, hl, h⟩, fun x H2 y => ?_⟩
    obtain ⟨F2, s2, I2', r2⟩ := yl x H2 y _ _ _ _ I'
    rw [List.append_assoc] at I2'
    rw [lcM.eq_2] at el'
    cases e1 : mg (.im items[i].unfz) ρ' with
    | none => rw [e1] at el'; cases el'
    | some ρ3 =>
      simp only [e1] at el'
      refine hg F2 H2 (wipe σ vs) _ ρ' Φ [] x (.im items[i].unfz) ρ3 _ (hlw.trans hn) I2' r2.unfz e1 fun σ3 F3 H3 s3 hn3 t3 I3' => ?_
      have w3 : ∀ j, j ∉ vs → σ3[j]? = (wipe σ vs)[j]? := fun j hj => t3 j fun z => hj (hv j z)
      have l3 : (wipe σ vs).length = σ3.length := by rw [hlw, hn, hn3]
      refine ⟨(wipe_ext l3.symm w3).trans wipe_wipe, ?_⟩
      have back : ∀ {F5 H5 : Hp} {ρ5 ρ6 : Rho}, En T F5 (σ3 ++ (τ ++ [some (.ref D)])) ρ5 Φ [] H5 → wipeO vs ρ5 = some ρ6 → En T F5 (wipe σ vs ++ τ ++ [some (.ref D)]) ρ6 Φ [] H5 := fun {F5 H5 ρ5 ρ6} I5 e5 => by
        rw [List.append_assoc]
        exact wipe_to I5 e5 l3 fun j hj => (w3 j hj).symm
      refine ht F3 H3 σ3 _ ρ3 Φ _ hn3 I3' ?_
      cases e2 : mt ρ3 with
      | st => simp only [e2] at el'; cases el'
      | ex c w ρ4 => simp only [e2] at el'; cases el'
      | ok r ρ4 =>
        simp only [e2] at el'
        cases eb : r.bl? with
        | none => simp only [eb] at el'; cases el'
        | some b =>
          have hr : r = .im (.bl b) := by
            cases r with
            | im d => cases d <;> cases eb; rfl
            | fr _ => cases eb
            | bo _ _ => cases eb
          refine ⟨b, hr, fun F4 H4 s4 I4' => ?_⟩
          cases b with
          | false =>
            simp only [eb] at el'
            cases e5 : wipeO vs ρ4 with
            | none => rw [e5] at el'; cases el'
            | some ρ6 =>
              rw [e5] at el'
              exact ⟨F4, ρ6, back I4' e5, ((e'.trans s2).trans s3).trans s4, el'⟩
          | true =>
            simp only [eb] at el'
            refine he F4 H4 σ3 _ ρ4 Φ _ hn3 I4' ?_
            cases e5 : me ρ4 with
            | st => simp only [e5] at el'; cases el'
            | ex c w ρ4 => simp only [e5] at el'; cases el'
            | ok r5 ρ5 =>
              simp only [e5] at el'
              intro y F5 H5 s5 I5 rr5
              cases es : store ρ5 (.bo kk []) r5 putApp with
              | none => rw [es] at el'; cases el'
              | some ρ6 =>
                rw [es] at el'
                have el' : wipe1 (lcM vs kk mg mt me (items.drop (i + 1))) (wipeO vs ρ6) = some ρe := el'
                cases e7 : wipeO vs ρ6 with
                | none => rw [e7] at el'; cases el'
                | some ρ7 =>
                  rw [e7] at el'
                  have rx : RR T F5 H5 (σ3 ++ (τ ++ [some (.ref D)])) (.ref D) (.bo kk []) := ⟨.ref D, by
                    rw [k0, ← List.append_assoc]
                    have : (wipe σ vs ++ τ).length = (σ3 ++ τ).length := by rw [List.length_append, List.length_append, l3]
                    rw [this, List.getElem?_append_right (Nat.le_refl _), Nat.sub_self]; rfl, rfl⟩
                  obtain ⟨F6, k, d, d', n', p, ob, s6, ex, hp, sh, hln, hg', fin⟩ := store_ok (X := []) (by rw [List.append_nil]; exact I5) rr5 rx es
                  cases ex
                  cases sh with
                  | lst =>
                    rename_i xs l
                    have hg' : (if l.length < sizeLine then some (l.length, Py.lst (l ++ [k])) else none) = some (n', d') := hg'
                    have hln : xs.length = l.length := hln
                    by_cases hz : l.length < sizeLine
                    · rw [if_pos hz] at hg'
                      cases hg'
                      have I6 := fin (.lst (xs ++ [y])) .lst (putL_end hln.symm).symm (putL_end rfl).symm (by show l.length ≤ xs.length; omega)
                      exact ⟨xs, hp, by omega, F6, ρ7, back I6 e7, ((((e'.trans s2).trans s3).trans s4).trans s5).trans s6, el'⟩
                    · rw [if_neg hz] at hg'; cases hg'
                  | _ => cases hg'
  · refine .inl ⟨(ok i F' H' e' I'.fh).2 (by omega), ?_⟩
    rw [List.drop_eq_nil_of_le (by omega)] at el'
    rw [lcM.eq_1] at el'
    cases el'
    exact fin F' H' e' I'
theorem se_lc [NoSg T] {ts : List Nat} {wi : TI} {g : TG} {tt : TT} {te : TE} {mi : MI} {mg : MG} {mt me : ME} (hv : ∀ i ∈ ts, i ∈ vs) (hi : SI T W n wi mi) (hg : SG T n ts g mg) (ht : ST T W0 n tt mt) (he : SE T W0 n te me) : SE T W n (tLc wi g tt te vs) (mLc vs mi mg mt me) := fun F H σ τ ρ Φ Q hn I q => by
  refine hi F H σ τ ρ Φ _ hn I ?_
  have q : EPost T W F σ τ Φ Q (mLc1 vs mg mt me (mi ρ)) := q
  cases e : mi ρ with
  | st => rw [e] at q; exact q
  | ex c w ρ' => rw [e] at q; exact q
  | ok items ρ1 =>
    rw [e] at q
    intro J F1 H1 s1 I1 ok D hD
    have q : EPost T W F σ τ Φ Q (mLc2 vs mg mt me items ρ1.length (wipeO vs ρ1)) := q
    cases ew : wipeO vs ρ1 with
    | none => rw [ew] at q; exact q.elim
    | some ρ2 =>
      rw [ew] at q
      have q : EPost T W F σ τ Φ Q (mLc3 vs ρ1.length (lcM vs ρ1.length mg mt me items (ρ2 ++ [.ow false (.lst [])]))) := q
      cases el : lcM vs ρ1.length mg mt me items (ρ2 ++ [.ow false (.lst [])]) with
      | none => rw [el] at q; exact q.elim
      | some ρe =>
        rw [el] at q
        have q : EPost T W F σ τ Φ Q (mLc4 vs (ρe.front ρ1.length) (popR ρe ρ1.length)) := q
        cases ep : popR ρe ρ1.length with
        | none => rw [ep] at q; exact q.elim
        | some r =>
          rw [ep] at q
          cases r with
          | im _ => exact q.elim
          | bo _ _ => exact q.elim
          | fr d0 =>
            have q : EPost T W F σ τ Φ Q (mLc5 d0 (wipeO vs (ρe.front ρ1.length))) := q
            cases ef : wipeO vs (ρe.front ρ1.length) with
            | none => rw [ef] at q; exact q.elim
            | some ρf =>
              rw [ef] at q
              have hlw : (wipe σ vs).length = σ.length := wipe_length σ vs
              have I2 : En T F1 (wipe σ vs ++ τ) ρ2 Φ [] H1 := wipe_to I1 ew hlw fun j hj => wipe_get hj
              have I3 := En.alloc (items := []) (X := []) I2 hD (d := .lst []) (o := .lst []) .lst rfl rfl rfl
              have I4 := En.push (v := .ref D) (r := .fr (.lst [])) I3 trivial
              have k0 : ρ1.length = (wipe σ vs ++ τ).length := by rw [← I1.len, List.length_append, List.length_append, hlw]
              refine lc_loop (D := D) hv hg ht he hn k0 I4 ok el fun F' H' e' I' => ?_
              obtain ⟨I5, _⟩ := En.pop (X := []) k0 I' ep I2.sg I2.hio
              rw [List.append_nil] at I5
              have I6 : En T F' (σ ++ τ) ρf Φ (Rv.rts (.ref D) (.fr d0)) H' := wipe_to I5 ef hlw.symm fun j hj => (wipe_get hj).symm
              exact q (.ref D) F' H' (s1.trans e') I6 trivial
end
end Mr
/-! Dp: list comprehensions of two clauses -/
namespace Mr
open PySem PySem.Spec PyProof.Rows L2

/-- the second clause, run -/
def lcB (vs1 : List Nat) (k0 : Nat) (mg1 : MG) (mt1 me : ME) : IR → Option Rho
  | .ok items1 ρ => wipe1 (lcM vs1 k0 mg1 mt1 me items1) (wipeO vs1 ρ)
  | _ => none
mutual
def lcM2 (vs vs1 : List Nat) (k0 : Nat) (mg : MG) (mt : ME) (mi1 : MI) (mg1 : MG) (mt1 me : ME) : List Py → Rho → Option Rho
  | [], ρ => some ρ
  | d :: ds, ρ => match mg (.im d.unfz) ρ with
    | none => none
    | some ρ1 => match mt ρ1 with
      | .ok r ρ2 => (match r.bl? with
        | some true => wipe1 (fun ρ4 => wipe1 (lcM2 vs vs1 k0 mg mt mi1 mg1 mt1 me ds) (wipeO vs ρ4)) (lcB vs1 k0 mg1 mt1 me (mi1 ρ2))
        | some false => wipe1 (lcM2 vs vs1 k0 mg mt mi1 mg1 mt1 me ds) (wipeO vs ρ2)
        | none => none)
      | _ => none
end
def mLcB2 (vs vs1 : List Nat) (mg : MG) (mt : ME) (mi1 : MI) (mg1 : MG) (mt1 me : ME) (items : List Py) (k0 : Nat) : Option Rho → ER
  | some ρ2 => mLc3 vs k0 (lcM2 vs vs1 k0 mg mt mi1 mg1 mt1 me items (ρ2 ++ [.ow false (.lst [])]))
  | none => .st
def mLcB1 (vs vs1 : List Nat) (mg : MG) (mt : ME) (mi1 : MI) (mg1 : MG) (mt1 me : ME) : IR → ER
  | .ok items ρ1 => mLcB2 vs vs1 mg mt mi1 mg1 mt1 me items ρ1.length (wipeO vs ρ1)
  | .ex c w ρ1 => .ex c w ρ1
  | .st => .st
def mLcB (vs vs1 : List Nat) (mi : MI) (mg : MG) (mt : ME) (mi1 : MI) (mg1 : MG) (mt1 me : ME) : ME := fun ρ => mLcB1 vs vs1 mg mt mi1 mg1 mt1 me (mi ρ)
section
variable {T : Tb} {W : Wx} {n : Nat} {F F1 F2 F' H H1 H2 H' : Hp} {Φ : Frm} {S S' τ : List (Option V)} {σ σ1 σ2 : L2.St} {ρ ρ1 ρ2 ρ' : Rho} {X Y : Rts} {v w o : V} {d k t : Py} {Q : VK} {vs vs1 : List Nat}
theorem se_lc2 [NoSg T] {ts ts1 : List Nat} {wi wi1 : TI} {g g1 : TG} {tt tt1 : TT} {te : TE} {mi mi1 : MI} {mg mg1 : MG} {mt mt1 me : ME} (hv : ∀ i ∈ ts, i ∈ vs) (hv1 : ∀ i ∈ ts1, i ∈ vs1) (hvv : ∀ i ∈ vs1, i ∈ vs) (hi : SI T W n wi mi) (hg : SG T n ts g mg) (ht : ST T W0 n tt mt) (hi1 : SI T W0 n wi1 mi1) (hg1 : SG T n ts1 g1 mg1) (ht1 : ST T W0 n tt1 mt1) (he : SE T W0 n te me) :
    SE T W n (tLc2 wi g tt wi1 g1 tt1 te vs vs1) (mLcB vs vs1 mi mg mt mi1 mg1 mt1 me) := fun F H σ τ ρ Φ Q hn I q => by
  refine hi F H σ τ ρ Φ _ hn I ?_
  have q : EPost T W F σ τ Φ Q (mLcB1 vs vs1 mg mt mi1 mg1 mt1 me (mi ρ)) := q
  cases e : mi ρ with
  | st => rw [e] at q; exact q
  | ex c w ρ' => rw [e] at q; exact q
  | ok items ρ1 =>
    rw [e] at q
    intro J F1 H1 s1 I1 ok D hD
    have q : EPost T W F σ τ Φ Q (mLcB2 vs vs1 mg mt mi1 mg1 mt1 me items ρ1.length (wipeO vs ρ1)) := q
    cases ew : wipeO vs ρ1 with
    | none => rw [ew] at q; exact q.elim
    | some ρ2 =>
      rw [ew] at q
      have q : EPost T W F σ τ Φ Q (mLc3 vs ρ1.length (lcM2 vs vs1 ρ1.length mg mt mi1 mg1 mt1 me items (ρ2 ++ [.ow false (.lst [])]))) := q
      cases el : lcM2 vs vs1 ρ1.length mg mt mi1 mg1 mt1 me items (ρ2 ++ [.ow false (.lst [])]) with
      | none => rw [el] at q; exact q.elim
      | some ρe =>
        rw [el] at q
        have q : EPost T W F σ τ Φ Q (mLc4 vs (ρe.front ρ1.length) (popR ρe ρ1.length)) := q
        cases ep : popR ρe ρ1.length with
        | none => rw [ep] at q; exact q.elim
        | some r =>
          rw [ep] at q
          cases r with
          | im _ => exact q.elim
          | bo _ _ => exact q.elim
          | fr d0 =>
            have q : EPost T W F σ τ Φ Q (mLc5 d0 (wipeO vs (ρe.front ρ1.length))) := q
            cases ef : wipeO vs (ρe.front ρ1.length) with
            | none => rw [ef] at q; exact q.elim
            | some ρf =>
              rw [ef] at q
              have hlw : (wipe σ vs).length = σ.length := wipe_length σ vs
              have I2 : En T F1 (wipe σ vs ++ τ) ρ2 Φ [] H1 := wipe_to I1 ew hlw fun j hj => wipe_get hj
              have I3 := En.alloc (items := []) (X := []) I2 hD (d := .lst []) (o := .lst []) .lst rfl rfl rfl
              have I4 := En.push (v := .ref D) (r := .fr (.lst [])) I3 trivial
              have k0 : ρ1.length = (wipe σ vs ++ τ).length := by rw [← I1.len, List.length_append, List.length_append, hlw]
              refine ⟨fun i m H' => m = items.length - i ∧ i ≤ items.length ∧ ∃ (F' : Hp) (ρ' : Rho), En T F' (wipe σ vs ++ τ ++ [some (.ref D)]) ρ' Φ [] H' ∧ Same F1 F' ∧ lcM2 vs vs1 ρ1.length mg mt mi1 mg1 mt1 me (items.drop i) ρ' = some ρe,
                ⟨items.length, by omega, by omega, F1, _, I4, Same.refl _, el⟩, ?_⟩
              rintro i m H' ⟨rfl, hi, F', ρ', I', e', el'⟩
              by_cases hl : i < items.length
              · refine .inr ?_
                have hd : items[i]? = some items[i] := List.getElem?_eq_getElem hl
                rw [List.drop_eq_getElem_cons hl] at el'
                obtain ⟨go, yl⟩ := (ok i F' H' e' I'.fh).1 _ hd
                refine ⟨go, fun H2 => ∃ (F' : Hp) (ρ' : Rho), En T F' (wipe σ vs ++ τ ++ [some (.ref D)]) ρ' Φ [] H2 ∧ Same F1 F' ∧ lcM2 vs vs1 ρ1.length mg mt mi1 mg1 mt1 me (items.drop (i + 1)) ρ' = some ρe, fun H2 h => ⟨items.length - (i + 1), by omega, rfl, hl, h⟩, fun x H2 y => ?_⟩
                obtain ⟨F2, s2, I2', r2⟩ := yl x H2 y _ _ _ _ I'
                rw [List.append_assoc] at I2'
                rw [lcM2.eq_2] at el'
                cases e1 : mg (.im items[i].unfz) ρ' with
                | none => rw [e1] at el'; cases el'
                | some ρ3 =>
                  simp only [e1] at el'
                  refine hg F2 H2 (wipe σ vs) _ ρ' Φ [] x (.im items[i].unfz) ρ3 _ (hlw.trans hn) I2' r2.unfz e1 fun σ3 F3 H3 s3 hn3 t3 I3' => ?_
                  have w3 : ∀ j, j ∉ vs → σ3[j]? = (wipe σ vs)[j]? := fun j hj => t3 j fun z => hj (hv j z)
                  have l3 : (wipe σ vs).length = σ3.length := by rw [hlw, hn, hn3]
                  refine ⟨(wipe_ext l3.symm w3).trans wipe_wipe, ?_⟩
                  refine ht F3 H3 σ3 _ ρ3 Φ _ hn3 I3' ?_
                  cases e2 : mt ρ3 with
                  | st => simp only [e2] at el'; cases el'
                  | ex c w ρ4 => simp only [e2] at el'; cases el'
                  | ok r ρ4 =>
                    simp only [e2] at el'
                    cases eb : r.bl? with
                    | none => simp only [eb] at el'; cases el'
                    | some b =>
                      have hr : r = .im (.bl b) := by
                        cases r with
                        | im d => cases d <;> cases eb; rfl
                        | fr _ => cases eb
                        | bo _ _ => cases eb
                      refine ⟨b, hr, fun F4 H4 s4 I4' => ?_⟩
                      cases b with
                      | false =>
                        simp only [eb] at el'
                        cases e5 : wipeO vs ρ4 with
                        | none => rw [e5] at el'; cases el'
                        | some ρ6 =>
                          rw [e5] at el'
                          refine ⟨F4, ρ6, ?_, ((e'.trans s2).trans s3).trans s4, el'⟩
                          rw [List.append_assoc]
                          exact wipe_to I4' e5 l3 fun j hj => (w3 j hj).symm
                      | true =>
                        simp only [eb] at el'
                        refine hi1 F4 H4 σ3 _ ρ4 Φ _ hn3 I4' ?_
                        cases e5 : mi1 ρ4 with
                        | st => rw [e5] at el'; cases el'
                        | ex c w ρ4 => rw [e5] at el'; cases el'
                        | ok items1 ρ5 =>
                          rw [e5] at el'
                          intro J1 F5 H5 s5 I5 ok1
                          have el' : wipe1 (fun ρ4 => wipe1 (lcM2 vs vs1 ρ1.length mg mt mi1 mg1 mt1 me (items.drop (i + 1))) (wipeO vs ρ4)) (wipe1 (lcM vs1 ρ1.length mg1 mt1 me items1) (wipeO vs1 ρ5)) = some ρe := el'
                          cases e6 : wipeO vs1 ρ5 with
                          | none => rw [e6] at el'; cases el'
                          | some ρ6 =>
                            rw [e6] at el'
                            have el' : wipe1 (fun ρ4 => wipe1 (lcM2 vs vs1 ρ1.length mg mt mi1 mg1 mt1 me (items.drop (i + 1))) (wipeO vs ρ4)) (lcM vs1 ρ1.length mg1 mt1 me items1 ρ6) = some ρe := el'
                            cases e7 : lcM vs1 ρ1.length mg1 mt1 me items1 ρ6 with
                            | none => rw [e7] at el'; cases el'
                            | some ρ7 =>
                              rw [e7] at el'
                              have el' : wipe1 (lcM2 vs vs1 ρ1.length mg mt mi1 mg1 mt1 me (items.drop (i + 1))) (wipeO vs ρ7) = some ρe := el'
                              cases e8 : wipeO vs ρ7 with
                              | none => rw [e8] at el'; cases el'
                              | some ρ8 =>
                                rw [e8] at el'
                                have hl1 : (wipe σ3 vs1).length = σ3.length := wipe_length σ3 vs1
                                have I6 : En T F5 (wipe σ3 vs1 ++ τ ++ [some (.ref D)]) ρ6 Φ [] H5 := by
                                  rw [List.append_assoc]
                                  exact wipe_to I5 e6 hl1 fun j hj => wipe_get hj
                                refine lc_loop (D := D) hv1 hg1 ht1 he hn3 (by rw [k0, List.length_append, List.length_append, hl1, l3]) I6 ok1 e7 fun F7 H7 s7 I7 => ⟨F7, ρ8, ?_, ((((e'.trans s2).trans s3).trans s4).trans s5).trans s7, el'⟩
                                rw [List.append_assoc] at I7 ⊢
                                exact wipe_to I7 e8 (l3.trans hl1.symm) fun j hj => by rw [wipe_get fun z => hj (hvv j z)]; exact (w3 j hj).symm
              · refine .inl ⟨(ok i F' H' e' I'.fh).2 (by omega), ?_⟩
                rw [List.drop_eq_nil_of_le (by omega)] at el'
                rw [lcM2.eq_1] at el'
                cases el'
                obtain ⟨I5, _⟩ := En.pop (X := []) k0 I' ep I2.sg I2.hio
                rw [List.append_nil] at I5
                have I6 : En T F' (σ ++ τ) ρf Φ (Rv.rts (.ref D) (.fr d0)) H' := wipe_to I5 ef hlw.symm fun j hj => (wipe_get hj).symm
                exact q (.ref D) F' H' (s1.trans e') I6 trivial
end
end Mr
/-! Dp: a loop over a list as it stands at each turn -/
namespace Mr
open PySem PySem.Spec PyProof.Rows L2

def srcR (k0 : Nat) : Option Sl → Option Rv
  | some (.im _ d) => some (.im d)
  | some (.ow _ _) => some (.bo k0 [])
  | some (.al j π) => some (.bo j π)
  | _ => none
inductive LT where
  | stop
  | it (r : Rv)
  | st
def itL3 (ρ : Rho) (r : Rv) (i : Nat) : Option Py → LT
  | some k => .it (kidF ρ r i k)
  | none => .stop
def itL2 (ρ : Rho) (r : Rv) (i : Nat) : Option Py → LT
  | some (.lst l) => itL3 ρ r i l[i]?
  | some (.scr l) => itL3 ρ r i l[i]?
  | _ => .st
def itL1 (ρ : Rho) (i : Nat) : Option Rv → LT
  | some r => itL2 ρ r i (datR ρ r)
  | none => .st
def itL (k0 i : Nat) (ρ : Rho) : LT := itL1 ρ i (srcR k0 ρ[k0]?)
/-- a body's end within a loop over a temp -/
def endL (k0 : Nat) (k : Rho → SR) : SR → SR
  | .nx ρ => k ρ
  | .ct ρ => k ρ
  | .bk ρ => .nx (ρ.front k0)
  | .rt r ρ => if r.within k0 = true then .rt r (ρ.front k0) else .st
  | .ex c w ρ => .ex c w (ρ.front k0)
  | .st => .st
def turnL (k0 : Nat) (mg : MG) (mb : MS) (k : Rho → SR) (ρ : Rho) : LT → SR
  | .stop => .nx (ρ.front k0)
  | .it r => (match mg r ρ with
    | some ρ1 => endL k0 k (mb ρ1)
    | none => .st)
  | .st => .st
def forL (k0 : Nat) (mg : MG) (mb : MS) : Nat → Nat → Rho → SR
  | 0, i, ρ => turnL k0 mg mb (fun _ => .st) ρ (itL k0 i ρ)
  | f + 1, i, ρ => turnL k0 mg mb (forL k0 mg mb f (i + 1)) ρ (itL k0 i ρ)
def forL2 (mg : MG) (mb : MS) (r : Rv) (ρ : Rho) : Option Py → SR
  | some (.lst l) => forL ρ.length mg mb l.length 0 (ρ ++ [r.sl])
  | some (.scr l) => forL ρ.length mg mb l.length 0 (ρ ++ [r.sl])
  | _ => .st
def mForL (me : ME) (mg : MG) (mb : MS) : MS := fun ρ => (me ρ).then fun r ρ1 => forL2 mg mb r ρ1 (datR ρ1 r)
section
variable {T : Tb} {W : Wx} {n : Nat} {F F1 F2 F' H H1 H2 H' : Hp} {Φ : Frm} {S S' τ : List (Option V)} {σ σ1 σ2 : L2.St} {ρ ρ1 ρ2 ρ' : Rho} {X Y : Rts} {v w o : V} {d k t : Py} {A B : List Addr} {xs : List V} {Q : VK} {D : Ends}
theorem src_ok {k0 : Nat} {r : Rv} (I : En T F S ρ Φ X H) (hs : S[k0]? = some (some v)) (e : srcR k0 ρ[k0]? = some r) : RR T F H S v r ∧ r.rts v = [] := by
  cases h : ρ[k0]? with
  | none => rw [h] at e; cases e
  | some s =>
    rw [h] at e
    have ok := I.sl k0 s h
    cases s with
    | no => cases e
    | im io d =>
      cases e
      obtain ⟨w, q1, q2⟩ := ok
      rw [hs] at q1
      cases q1
      exact ⟨q2, rfl⟩
    | ow io d => cases e; exact ⟨⟨v, hs, rfl⟩, rfl⟩
    | al j π =>
      cases e
      obtain ⟨w, u, q1, q2, q3⟩ := ok
      rw [hs] at q1
      cases q1
      exact ⟨⟨u, q2, q3⟩, rfl⟩
/-- a turn: an item, or the end -/
def LOk (T : Tb) (a : Addr) (i : Nat) (F H : Hp) (S : List (Option V)) (ρ : Rho) (Φ : Frm) : LT → Prop
  | .stop => (Itl T.K a).stop i H
  | .it r => (Itl T.K a).go i H ∧ ∀ y H2, (Itl T.K a).yld i H y H2 → H2 = H ∧ En T F S ρ Φ (r.rts y ++ []) H ∧ RR T F H S y r
  | .st => True
theorem itL_ok {a : Addr} {k0 i : Nat} (I : En T F S ρ Φ [] H) (hs : S[k0]? = some (some (.ref a))) : LOk T a i F H S ρ Φ (itL k0 i ρ) := by
  unfold itL
  cases es : srcR k0 ρ[k0]? with
  | none => trivial
  | some r =>
    obtain ⟨rr, r0⟩ := src_ok I hs es
    have I' : En T F S ρ Φ (r.rts (.ref a) ++ []) H := by rw [r0]; exact I
    show LOk T a i F H S ρ Φ (itL2 ρ r i (datR ρ r))
    have main : ∀ {l : List Py} {d : Py}, datR ρ r = some d → d.hasV = true → d.its = l → (∀ xs, Vw T H (.ref a) xs d → SqL T.K H a xs) → LOk T a i F H S ρ Φ (itL3 ρ r i l[i]?) := fun {l d} hd hv hi hq => by
      subst hi
      obtain ⟨xs, h1, h2, h3⟩ := view_ok I' rr hd hv
      have q := hq xs h1
      cases hk : d.its[i]? with
      | none =>
        refine ⟨xs, q, ?_⟩
        rw [h2]
        exact List.getElem?_eq_none_iff.mp hk
      | some k =>
        obtain ⟨w, w1, w2, w3⟩ := h3 i k hk
        refine ⟨⟨xs, w, q, w1⟩, fun y H2 yl => ?_⟩
        obtain ⟨eH, yl⟩ := yl
        have := (yl xs q).symm.trans w1
        cases this
        exact ⟨eH, w2, w3⟩
    cases hd : datR ρ r with
    | none => trivial
    | some d =>
      cases d with
      | lst l => exact main hd rfl rfl (fun xs ⟨a', z1, z2⟩ => by cases z1; exact .inl (.inl z2))
      | scr l => exact main hd rfl rfl (fun xs ⟨a', z1, z2⟩ => by cases z1; exact z2)
      | _ => trivial
theorem endL_post {Dn : Ends} {N : L2.St → Hp → Prop} {k : Rho → SR} {k0 : Nat} (hD : Dn = { D with nx := N, ct := N, bk := D.nx }) (hk : ∀ σ' : L2.St, σ'.length = n → k0 = (σ' ++ τ).length) (hio : ∀ k v, Φ.io k = some v → k < k0) (sg : T.sg = none)
    (hN : ∀ ρ' (σ' : L2.St) F' H', Same F F' → σ'.length = n → En T F' (σ' ++ (τ ++ [some v])) ρ' Φ [] H' → SPost T W n F' τ Φ D (k ρ') → N σ' H') {x : SR} (q : SPost T W n F τ Φ D (endL k0 k x)) : SPost T W n F (τ ++ [some v]) Φ Dn x := by
  subst hD
  have fr : ∀ {σ' : L2.St} {F' H' : Hp} {ρ' : Rho} {X : Rts}, σ'.length = n → En T F' (σ' ++ (τ ++ [some v])) ρ' Φ X H' → En T F' (σ' ++ τ) (ρ'.front k0) Φ X H' := fun {σ' F' H' ρ' X} hn I =>
    En.front (hk σ' hn) (by rw [List.append_assoc]; exact I) (fun s e => by rw [sg] at e; cases e) (fun k v e => by rw [← hk σ' hn]; exact hio k v e)
  cases x with
  | st => exact q
  | nx ρ' => exact fun σ' F' H' s hn I => hN ρ' σ' F' H' s hn I (SPost.mono s q)
  | ct ρ' => exact fun σ' F' H' s hn I => hN ρ' σ' F' H' s hn I (SPost.mono s q)
  | bk ρ' => exact fun σ' F' H' s hn I => q σ' F' H' s hn (fr hn I)
  | ex c w ρ' => exact fun d u σ' F' H' s hn I => q d u σ' F' H' s hn (fr hn I)
  | rt r ρ' =>
    have q : SPost T W n F τ Φ D (if r.within k0 = true then .rt r (ρ'.front k0) else .st) := q
    by_cases hw : r.within k0 = true
    · rw [if_pos hw] at q
      refine fun u σ' F' H' s hn I rr => q u σ' F' H' s hn (fr hn I) ?_
      cases r with
      | im d => exact rr
      | fr d => trivial
      | bo i π =>
        obtain ⟨z, e1, a⟩ := rr
        have hi : i < (σ' ++ τ).length := by rw [← hk σ' hn]; exact of_decide_eq_true hw
        rw [← List.append_assoc] at e1
        exact ⟨z, get_left hi e1, a⟩
    · rw [if_neg hw] at q; exact q.elim
theorem ss_forL [hT : NoSg T] {ts : List Nat} {te : TE} {g : TG} {tb : TS} {me : ME} {mg : MG} {mb : MS} (he : SE T W n te me) (hg : SG T n ts g mg) (hb : SS T W n tb mb) : SS T W n (tFor (iSeq T.K te) g tb) (mForL me mg mb) := fun F H σ τ ρ Φ D hn I q => by
  refine .inl (ss_then he hn I q fun v r ρ1 F1 H1 s1 I1 r1 q1 => ?_)
  have main : ∀ (l : List Py) (d : Py), datR ρ1 r = some d → d.hasV = true → (∃ xs a, v = .ref a ∧ SqL T.K H1 a xs) → SPost T W n F1 τ Φ D (forL ρ1.length mg mb l.length 0 (ρ1 ++ [r.sl])) → ∃ a, v = .ref a ∧ (∃ xs, SqL T.K H1 a xs) ∧ (fun J H1 => ∃ W : Nat → Nat → L2.St → Hp → Prop, (∃ m, W 0 m σ H1) ∧ ∀ i m σ H, W i m σ H →
      (It.stop J i H ∧ D.nx σ H) ∨ (It.go J i H ∧ ∃ N : L2.St → Hp → Prop, (∀ σ' H', N σ' H' → ∃ m', m' < m ∧ W (i + 1) m' σ' H') ∧ ∀ x H', It.yld J i H x H' → g x σ H' fun σ2 H2 => tb { D with nx := N, ct := N, bk := D.nx } σ2 H2)) (Itl T.K a) H1 := fun l d hd hv ⟨xs, a, ea, hq⟩ q1 => by
    subst ea
    refine ⟨a, rfl, ⟨xs, hq⟩, ?_⟩
    have I2 := En.push (X := []) (by rw [List.append_nil]; exact I1) r1
    have el : ρ1.length = (σ ++ τ).length := I1.len.symm
    have hk : ∀ σ' : L2.St, σ'.length = n → ρ1.length = (σ' ++ τ).length := fun σ' h => by rw [el, List.length_append, List.length_append, hn, h]
    have hio : ∀ k v, Φ.io k = some v → k < ρ1.length := fun k v e => by rw [el]; exact I1.hio k v e
    refine ⟨fun i m σ' H' => ∃ F' ρ', σ'.length = n ∧ En T F' (σ' ++ τ ++ [some (.ref a)]) ρ' Φ [] H' ∧ SPost T W n F' τ Φ D (forL ρ1.length mg mb m i ρ'), ⟨l.length, F1, _, hn, I2, q1⟩, ?_⟩
    rintro i m σ' H' ⟨F', ρ', hn', I', q'⟩
    have hs : (σ' ++ τ ++ [some (.ref a)])[ρ1.length]? = some (some (.ref a)) := by
      rw [hk σ' hn', List.getElem?_append_right (Nat.le_refl _), Nat.sub_self]; rfl
    have ok := itL_ok I' hs (i := i)
    have I'' : En T F' (σ' ++ (τ ++ [some (.ref a)])) ρ' Φ [] H' := by rw [← List.append_assoc]; exact I'
    -- one turn, whatever waits behind
    have turn : ∀ {k : Rho → SR}, SPost T W n F' τ Φ D (turnL ρ1.length mg mb k ρ' (itL ρ1.length i ρ')) → ∀ N : L2.St → Hp → Prop, (∀ ρ4 (σ4 : L2.St) F4 H4, σ4.length = n → En T F4 (σ4 ++ (τ ++ [some (.ref a)])) ρ4 Φ [] H4 → SPost T W n F4 τ Φ D (k ρ4) → N σ4 H4) →
        ((Itl T.K a).stop i H' ∧ D.nx σ' H') ∨ ((Itl T.K a).go i H' ∧ ∀ x H2, (Itl T.K a).yld i H' x H2 → g x σ' H2 fun σ2 H2 => tb { D with nx := N, ct := N, bk := D.nx } σ2 H2) := fun {k} q2 N hN => by
      cases ei : itL ρ1.length i ρ' with
      | st => rw [ei] at q2; exact q2.elim
      | stop =>
        rw [ei] at q2 ok
        refine .inl ⟨ok, q2 σ' F' H' (Same.refl _) hn' (En.front (hk σ' hn') I' (fun s e => by (rw [hT.h] at e; cases e)) fun k v e => by rw [← hk σ' hn']; exact hio k v e)⟩
      | it r' =>
        rw [ei] at q2 ok
        refine .inr ⟨ok.1, fun x H2 y => ?_⟩
        obtain ⟨eH, I3, r3⟩ := ok.2 x H2 y
        subst eH
        have q2 : SPost T W n F' τ Φ D (match mg r' ρ' with | some ρ1' => endL ρ1.length k (mb ρ1') | none => .st) := q2
        cases em : mg r' ρ' with
        | none => rw [em] at q2; exact q2.elim
        | some ρ3 =>
          rw [em] at q2
          rw [List.append_assoc] at I3 r3
          refine hg F' H2 σ' _ ρ' Φ [] x r' ρ3 _ hn' I3 r3 em fun σ3 F3 H3 s3 hn3 _ I4 => ?_
          exact hb F3 H3 σ3 _ ρ3 Φ _ hn3 I4 (endL_post rfl hk hio hT.h (fun ρ4 σ4 F4 H4 _ hn4 I5 q5 => hN ρ4 σ4 F4 H4 hn4 I5 q5) (SPost.mono s3 q2))
    cases m with
    | zero =>
      rcases turn q' (fun _ _ => False) (fun _ _ _ _ _ _ q => q.elim) with h | ⟨h1, h2⟩
      · exact .inl h
      · exact .inr ⟨h1, fun _ _ => False, fun _ _ h => h.elim, h2⟩
    | succ m =>
      rcases turn (k := forL ρ1.length mg mb m (i + 1)) q' (fun σ4 H4 => ∃ F' ρ', σ4.length = n ∧ En T F' (σ4 ++ τ ++ [some (.ref a)]) ρ' Φ [] H4 ∧ SPost T W n F' τ Φ D (forL ρ1.length mg mb m (i + 1) ρ')) (fun ρ4 σ4 F4 H4 hn4 I4 q4 => ⟨F4, ρ4, hn4, by rw [List.append_assoc]; exact I4, q4⟩) with h | ⟨h1, h2⟩
      · exact .inl h
      · exact .inr ⟨h1, _, fun σ4 H4 h => ⟨m, Nat.lt_succ_self m, h⟩, h2⟩
  cases hd : datR ρ1 r with
  | none => rw [hd] at q1; exact q1.elim
  | some d =>
    rw [hd] at q1
    have I1' : En T F1 (σ ++ τ) ρ1 Φ (r.rts v ++ []) H1 := by rw [List.append_nil]; exact I1
    cases d with
    | lst l =>
      obtain ⟨xs, ⟨a, z1, z2⟩, _⟩ := view_ok I1' r1 hd rfl
      exact main l _ hd rfl ⟨xs, a, z1, .inl (.inl z2)⟩ q1
    | scr l =>
      obtain ⟨xs, ⟨a, z1, z2⟩, _⟩ := view_ok I1' r1 hd rfl
      exact main l _ hd rfl ⟨xs, a, z1, z2⟩ q1
    | _ => exact q1.elim
end
end Mr
/-! Mr: the program's own errors: Refused and the classes under it, with the one field -/
namespace PySem
namespace ExX
open PySem.W PySem.Calls PyProof.Rows PySem.HandSPX
/-! ### the text of __init__ -/
def iA (p1 p2 : Pos) : Arguments := { posonlyargs := [], args := [{ arg := "self", annotation := none, pos := p1 }, { arg := "what", annotation := none, pos := p2 }], vararg := none, kwonlyargs := [], kw_defaults := [], kwarg := none, defaults := [] }
def iB (q1 q2 q3 q4 : Pos) : List Stmt := [.Assign [.Attribute (.Name "self" q1) "what" q2] (.Name "what" q3) q4]
def iS : Scope := { kind := .function, names := [(PySem.Str.ofString "self", .local), (PySem.Str.ofString "what", .local)], isGenerator := false, isCoroutine := false, more := [] }
/-- what the written part says of Low, at C, and of its __init__, at fI -/
structure ExTxt (K : Frag) (mg : Str → Option Value) (x : Str) (C fI : Addr) : Prop where
  gC : mg x = some (.ref C)
  cls : ∃ nm q N bs bm sn sub ab col dd k0 k1 k2 k3 k5, K.lookup C = some (excClassObj nm q C N bs bm true sn sub ab col dd k0 k1 k2 k3 k5 "ValueError.__new__") ∧ refsVE bm = true
  sa : findIn K (.ref C) "__setattr__" = some (some (.builtin "object.__setattr__"))
  ga : findIn K (.ref C) "__getattribute__" = some (some (.builtin "BaseException.__getattribute__"))
  gg : findIn K (.ref C) "__getattr__" = some none
  noN : findIn K (.ref C) "what" = some none
  iC : findIn K (.ref C) "__init__" = some (some (.ref fI))
  tC : typeIn K (.ref fI) = some (.type "function")
  kC : keepIn K (.ref C) = true
  exC : subIn K (.ref C) (.type "BaseException") = some true
  tyC : typeIn K (.ref C) = some (.type "type")
  hdC : hasDictIn K C = true
  fn : ∃ (oc : Value) (od : Option Addr) (doc pm : Value) (an : Option Addr) (cdv ct : Value) (osl : Array (Option Value)) (p1 p2 q1 q2 q3 q4 : Pos),
    K.lookup fI = some ⟨oc, od, .func (fnOf "__init__" "Refused.__init__" (iA p1 p2) (iB q1 q2 q3 q4) iS .none .none doc pm an cdv ct), osl⟩ ∧ codeIn K cdv "Refused.__init__" = true
theorem one_size (v : Value) : [v].length ≤ sizeLine := by
  rw [sizeLine_eq]
  exact (by decide : 1 ≤ 16777216)
theorem kept_but {K : Frag} {h h' : Heap} {x : Addr} (X : K.In h) (hx : K.lookup x = none) (k : ∀ b o, b ≠ x → h.get? b = some o → h'.get? b = some o) : K.In h' := fun a o e =>
  k a o (fun z => by rw [z, hx] at e; cases e) (X a o e)
theorem ldC {M : Model} {s : Shared} {name : Str} {scope : Scope} {L a : Addr} {cd : Value} {m : Str → Option Value} {x : Str} {pos : Pos} {v : Value} {Q : Value → Shared → Prop} {A : Around} {E : Value → Shared → Prop} (hn : s.heap.Ns L m) (hv : m x = some v) (h : Q v s)
    (hk : scope.kind = .function := by rfl) (hl : (envOfC name scope L a cd).kindOf x = some .local := by rfl) (hd : (x == ("__debug__" : Str)) = false := by decide) :
    wpAny M A (eval (.Name x pos) (envOfC name scope L a cd)) Q E s := wpAny_Name (wpAny_loadName_local hk hl hn hv h) hd
/-- what __init__ leaves of a fresh exception at x -/
structure InitEnd (h h' : Heap) (x C dx t1 : Addr) (v : Value) : Prop where
  keep : ∀ b o, b ≠ x → h.get? b = some o → h'.get? b = some o
  obj : h'.get? x = some { cls := .ref C, dict := some dx, data := .fields #[.ref t1, .none, .none, .none, .bool false, .none] }
  dbig : h.objs.size ≤ dx
  dne : dx ≠ x
  ns : h'.Ns1 dx (fun y => if y = "what" then some v else none)
/-- a made Low -/
structure OwnMade (h h' : Heap) (e C d : Addr) (v : Value) : Prop where
  keep : ∀ b o, h.get? b = some o → h'.get? b = some o
  new : h.objs.size ≤ e
  obj : ∃ oe vs, h'.get? e = some oe ∧ oe.cls = .ref C ∧ oe.dict = some d ∧ oe.data = .fields vs ∧ vs[1]? = some .none
  dbig : h.objs.size ≤ d
  dne : d ≠ e
  ns : h'.Ns1 d (fun y => if y = "what" then some v else none)
section
variable {prog : Program} {w : World} {A : Around} {E : Value → Shared → Prop} {R : Result → Shared → Prop} {s : Shared} {K : Frag} {mg : Str → Option Value} {C fI : Addr}
theorem ex_init {nx : Str} (T : ExTxt K mg nx C fI) {x t0 : Addr} {v : Value} (X : K.In s.heap) (hlim : s.heap.NoLimit) (hx : s.heap.get? x = some (excO C t0)) (hnx : K.lookup x = none) (hroom : A.depth < recursionLimit)
    (hq : ∀ h' tk dx, InitEnd s.heap h' x C dx t0 v → R (.ok (.ret .none)) { s with heap := h', toks := tk }) :
    codeAny (model prog w) A (.call (.ref fI) ⟨[.ref x, v], []⟩) R s := by
  obtain ⟨oc, od, doc, pm, an, cdv, ct, osl, p1, p2, q1, q2, q3, q4, ho, hcd⟩ := T.fn
  obtain ⟨nm, q, N, bs, bm, sn, sub, ab, col, dd, k0, k1, k2, k3, k5, hC, hbm⟩ := T.cls
  have hcl : clsIn K C = some { name := nm, bases := bs, mro := .ref C :: bm, ns := N, qualname := q, hasDict := true, slotNames := sn, subclasses := sub, abstract := ab, collection := col, hasDel := false } := by unfold clsIn; rw [hC] <;> rfl
  refine Att.call_fn (binds := [("self", .ref x), ("what", v)]) X hlim ho hcd hroom (BindsTo.of_eq (by first | rfl | with_unfolding_all rfl)) (by first | rfl | decide | with_unfolding_all rfl) (fun s₁ IC => ?_) rfl rfl rfl
  obtain ⟨h₁, tk₁, rfl⟩ := IC.toInCall.same
  have k : ∀ b o, s.heap.get? b = some o → h₁.get? b = some o := IC.toInCall.keep
  have hn := IC.toInCall.ns
  have hxL : s.heap.objs.size ≠ x := Nat.ne_of_gt (Heap.lt_size hx)
  have X₁ : K.In h₁ := X.keeps k
  have hx₁ := k _ _ hx
  -- self.by = by
  show wpAny _ _ (execs _ _) _ _ _
  refine wpAny_execs_cons (plainObj_wpAny_Assign_Attribute ?_)
  refine ldC (v := v) hn (by first | rfl | with_unfolding_all rfl | kernel_rfl) (ldC (v := .ref x) hn (by first | rfl | with_unfolding_all rfl | kernel_rfl) ?_)
  refine set_plain X₁ (ox := excO C t0) (od := none) ⟨hx₁, rfl, rfl, trivial⟩ T.sa ?_
  refine exc_osa X₁ hx₁ hcl (show refsVE (.ref C :: bm) = true from hbm) rfl T.noN (fun h₃ tk₃ dx k₃ dn dne hx₃ hn₃ => ?_)
  show wpAny _ _ (execs _ _) _ _ _
  have z : s.heap.objs.size < h₁.objs.size := hn.lt
  exact wpAny_execs_nil (hq h₃ tk₃ dx ⟨fun b o hb e => k₃ b o hb (k b o e), hx₃, Nat.le_of_lt (Nat.lt_of_lt_of_le z dn), dne, hn₃⟩)
theorem ex_made {nx : Str} (T : ExTxt K mg nx C fI) {v : Value} (X : K.In s.heap) (hlim : s.heap.NoLimit) (hroom : A.depth + 1 < recursionLimit)
    (hq : ∀ h' tk e d, OwnMade s.heap h' e C d v → R (.ok (.ret (.ref e))) { s with heap := h', toks := tk }) :
    codeAny (model prog w) A (.call (.ref C) ⟨[v], []⟩) R s := by
  obtain ⟨nm, q, N, bs, bm, sn, sub, ab, col, dd, k0, k1, k2, k3, k5, hC, hbm⟩ := T.cls
  obtain ⟨hp, g, dr, tk, os⟩ := s
  have k : ∀ b o, hp.get? b = some o → ((hp.push (kdv_tup [v])).push (excO C hp.objs.size)).get? b = some o := fun b o e => Heap.get?_push_of_some _ (Heap.get?_push_of_some _ e)
  have hget : ((hp.push (kdv_tup [v])).push (excO C hp.objs.size)).get? (hp.objs.size + 1) = some (excO C hp.objs.size) := by heap_get
  have hnx : K.lookup (hp.objs.size + 1) = none := by
    cases e : K.lookup (hp.objs.size + 1) with
    | none => rfl
    | some o =>
      have z : hp.get? (hp.objs.size + 1) = some o := X _ _ e
      exact absurd (Nat.lt_of_succ_lt (Heap.lt_size z)) (Nat.lt_irrefl _)
  refine call_own F.excBase_ValueError (fun X => refsVE_contains X bm hbm) (X _ _ hC) (looks_findIn X T.iC) (fun self => bind_fn X self T.tC) (one_size v) ?_
  refine ex_init (s := ⟨(hp.push (kdv_tup [v])).push (excO C hp.objs.size), g, dr, tk, os⟩) T (X.keeps k) (hlim.keeps k) hget hnx ?_ fun h' tk' dx ⟨k', hx, dn, dne, hns⟩ => ?_
  · show A.depth + 1 < recursionLimit
    exact hroom
  · have old : ∀ b o, hp.get? b = some o → h'.get? b = some o := fun b o e => k' b o (Nat.ne_of_lt (Nat.lt_succ_of_lt (Heap.lt_size e))) (k b o e)
    have z : hp.objs.size + 1 + 1 ≤ dx := by
      first
        | (simpa only [Heap.size_push] using dn)
        | exact dn
        | (have q := dn; rw [Heap.size_push, Heap.size_push] at q; exact q)
    exact ⟨rfl, hq h' tk' (hp.objs.size + 1) dx ⟨old, Nat.le_succ _, ⟨_, _, hx, rfl, rfl, rfl, rfl⟩, Nat.le_trans (Nat.le_trans (Nat.le_succ _) (Nat.le_succ _)) z, dne, hns⟩⟩
end
end ExX
end PySem
namespace L2
open PySem PySem.Spec PyProof.Rows
theorem relO_ex {v : V} {v' : Value} (r : RelV v v') (f : Str) : RelO (List.lookup f [(("what" : Str), v)]) (if f = "what" then some v' else none) := by
  by_cases hw : f = "what"
  · subst hw
    rw [if_pos rfl]
    have q : List.lookup ("what" : Str) [(("what" : Str), v)] = some v := by simp [List.lookup]
    rw [q]
    exact r
  · rw [if_neg hw]
    have qw : (f == ("what" : Str)) = false := by simpa using hw
    have q2 : List.lookup f [(("what" : Str), v)] = none := by simp [List.lookup, qw]
    rw [q2]
    trivial
section
variable {X : Cx} {C fI : Addr}
/-- Low(e) -/
def tMkEx (C : Addr) (ta : TA) : St → Hp → XK → Prop := fun σ H Q => ta σ H fun vs H1 => ∃ v, vs = [v] ∧ ∀ d, H1 d = none → Q (.ref C) (some d) (upd H1 d (.xd [(("what" : Str), v)]))
theorem pmk_ex {a : Expr} {ta : TA} {p pos : Pos} {k : Nat} {x : Str} (T : PySem.ExX.ExTxt X.K X.mg x C fI) (hr : Room k X.A) (ha : PA X [a] ta) (hg : Gl X x := by rfl)
    (he : starEach (a :: []) X.env = (false, eval a X.env) :: starEach [] X.env := by rfl) (hpl : (backTo pos (starEach [] X.env)).any (·.1) = false := by rfl) (hdb : (x == ("__debug__" : Str)) = false := by decide) :
    PMk X (.Call (.Name x p) [a] [] pos) (tMkEx C ta) := by
  intro pins s σ H Q I h
  refine wpAny_Call_Name_kw (ld_glob I hg T.gC ?_ hdb)
  refine PySem.W.callWith_K (h₀ := X.base) I.ok.mod.kin T.kC (thn (ha.run pos pins s σ H _ I h) fun us s1 hh => ?_) he hpl
  obtain ⟨vs, H1, I1, r1, v, ev, q1⟩ := hh
  subst ev
  refine ⟨I1.kIn, ?_⟩
  cases r1 with
  | cons rv rn =>
    rename_i v' us'
    cases rn
    show wpAny _ _ (call (.ref C) [v']) _ _ _
    have hlim := I1.nolimit
    obtain ⟨hp, g, dr, tk, os⟩ := s1
    refine wpAny_call (PySem.ExX.ex_made T I1.kIn hlim (by have := hr.dp; omega) fun h' tk' e d M => ?_)
    show MkP X pins σ Q (.ref e) ⟨h', g, dr, tk', os⟩
    obtain ⟨oe, fv, hoe, hc, hd, hdat, h1⟩ := M.obj
    have hns := M.ns
    obtain ⟨G', g1, g2⟩ := restrict h' fun b => decide (b ≠ e)
    have gk : ∀ b, b ≠ e → G'.get? b = h'.get? b := fun b hb => g1 b (decide_eq_true hb)
    have ge : G'.get? e = none := g2 e (by simp)
    have old : ∀ b o, hp.get? b = some o → G'.get? b = some o := fun b o q => (gk b (Nat.ne_of_lt (Nat.lt_of_lt_of_le (Heap.lt_size q) M.new))).trans (M.keep b o q)
    have ob : ObjOk X.prog X.w (upd H1 d (.xd [(("what" : Str), v)])) G' d (.xd [(("what" : Str), v)]) :=
      ⟨_, hns.at (fun o q => (gk d M.dne).trans q), fun f => relO_ex rv f⟩
    have J : Inv X pins σ (upd H1 d (.xd [(("what" : Str), v)])) ⟨G', g, dr, tk', os⟩ := I1.laid (t' := tk') old M.dbig ob
    refine ⟨e, oe, fv, ⟨G', g, dr, tk', os⟩, _, .ref C, some d, rfl, J, fun b o q => ?_, ge, hoe, ⟨hc, hd⟩, hdat, h1, ?_, rfl, I1.bare, raises_own T.exC T.tyC, q1 d (I1.hok.fresh M.dbig)⟩
    · by_cases hb : b = e
      · have q' : G'.get? b = some o := q
        rw [hb, ge] at q'; cases q'
      · exact (gk b hb).symm.trans q
    · rw [upd_ne (Ne.symm M.dne)]
      exact I1.hok.fresh M.new
/-- low.by, low the exception that the suite holds (at a; its class cls, its dict d) -/
def tWhat (C : Addr) (a : Addr) (cls : Value) (d : Option Addr) (te : TE) : TE := fun σ H Q => te σ H fun x H1 => x = .ref a ∧ cls = .ref C ∧ ∃ (dd : Addr) (v : V), d = some dd ∧ H1 dd = some (.xd [(("what" : Str), v)]) ∧ Q v H1
theorem pe_what {a : Addr} {oe : Obj} {cls : Value} {d : Option Addr} {pn : List (Addr × Obj)} {e : Expr} {te : TE} {pos : Pos} {nx : Str} (T : PySem.ExX.ExTxt X.K X.mg nx C fI) (hz : Zc cls d oe) (hf : ∃ vs, oe.data = .fields vs) (he : PE (X.suite a ((a, oe) :: pn)) e te)
    (hb : attributeBase e "what" X.env (eval e X.env) = eval e X.env := by rfl) :
    PE (X.suite a ((a, oe) :: pn)) (.Attribute e "what" pos) (tWhat C a cls d te) := by
  refine ⟨fun pins s σ H Q I h => ?_⟩
  refine attr_of hb (thn (he.run pins s σ H _ I h) fun u s1 hh => ?_)
  obtain ⟨x, H1, I1, rx, ex, ec, dd, v, ed, ea, q⟩ := hh
  subst ex
  obtain rfl : u = Value.ref a := rx
  subst ec
  subst ed
  obtain ⟨ha, _⟩ := I1.pin (a, oe) (List.mem_append_left _ List.mem_cons_self)
  obtain ⟨vs, hd⟩ := hf
  have hx : ObjOk X.prog X.w H1 s1.heap dd (.xd [(("what" : Str), v)]) := I1.hok dd _ ea
  obtain ⟨mA, hns, hr⟩ := hx
  obtain ⟨od, ho, hl⟩ := lookIn_ns hns
  have l : List.lookup ("what" : Str) [(("what" : Str), v)] = some v := by simp [List.lookup]
  obtain ⟨u, hu, ru⟩ := RelO.some_of (v := v) (o := mA "what") (by rw [← l]; exact hr "what")
  have J : PySem.W.InstAt s1.heap a oe C (some od) := ⟨ha, hz.1, by unfold PySem.W.notCls; rw [hd] <;> rfl, by rw [hz.2]; exact ho⟩
  exact HandSPX.exc_get I1.kIn J T.ga T.gg T.exC (PySem.W.findObj_own T.hdC T.noN rfl (by rw [hl, hu])) (handed_of ru) ⟨v, H1, I1.tok _, ru, q⟩
end
end L2
/-! Dp: raise, and try: .. except X as e: return .. -/
namespace Mr
open PySem PySem.Spec PyProof.Rows L2
/-! ### other standing things, the same data -/
mutual
theorem Rep.tr {T U : Tb} (hK : U.K = T.K) (hc : U.cls = T.cls) {F : Hp} : ∀ {v : V} {d : Py}, Rep T F v d → Rep U F v d
  | _, _, .non => .non
  | _, _, .bl b => .bl b
  | _, _, .int i => .int i
  | _, _, .str x => .str x
  | _, _, .tup h r => .tup (by rw [hK]; exact h) (RepL.tr hK hc r)
  | _, _, .lst h r => .lst h (RepL.tr hK hc r)
  | _, _, .scr h r => .scr (by rw [hK]; exact h) (RepL.tr hK hc r)
  | _, _, .dic h k r => .dic h k (RepL.tr hK hc r)
  | _, _, .dit h k r => .dit h k (RepL.tr hK hc r)
  | _, _, .obj h k r => .obj (by rw [hc]; exact h) k (RepL.tr hK hc r)
  | _, _, .fz h => .fz (Rep.tr hK hc h)
theorem RepL.tr {T U : Tb} (hK : U.K = T.K) (hc : U.cls = T.cls) {F : Hp} : ∀ {vs : List V} {ds : List Py}, RepL T F vs ds → RepL U F vs ds
  | _, _, .nil => .nil
  | _, _, .cons h r => .cons (Rep.tr hK hc h) (RepL.tr hK hc r)
end
theorem Shp.tr {T U : Tb} (hc : U.cls = T.cls) {o : HO} {d : Py} (h : Shp T o d) : Shp U o d := by
  cases h with
  | tup => exact .tup
  | lst => exact .lst
  | dic e => exact .dic e
  | dit e => exact .dit e
  | dicL e => exact .dicL e
  | ditL e => exact .ditL e
  | obj e => rw [← hc]; exact .obj e
mutual
theorem Tr.tr {T U : Tb} (hK : U.K = T.K) (hc : U.cls = T.cls) {F H : Hp} : ∀ {v : V} {d : Py} {A : List Addr}, Tr T F H v d A → Tr U F H v d A
  | _, _, _, .leaf r i => .leaf (r.tr hK hc) i
  | _, _, _, .fz r => .fz (r.tr hK hc)
  | _, _, _, .node h s i r => .node h (s.tr hc) i (TrL.tr hK hc r)
theorem TrL.tr {T U : Tb} (hK : U.K = T.K) (hc : U.cls = T.cls) {F H : Hp} : ∀ {vs : List V} {ds : List Py} {A : List Addr}, TrL T F H vs ds A → TrL U F H vs ds A
  | _, _, _, .nil => .nil
  | _, _, _, .cons h r => .cons (Tr.tr hK hc h) (TrL.tr hK hc r)
end
theorem TrP.tr {T U : Tb} (hK : U.K = T.K) (hc : U.cls = T.cls) {F H : Hp} : ∀ {L : Rts} {A : List Addr}, TrP T F H L A → TrP U F H L A
  | _, _, .nil => .nil
  | _, _, .cons h r => .cons (h.tr hK hc) (TrP.tr hK hc r)
section
variable {T U : Tb} {F F1 H : Hp} {Φ : Frm} {S : List (Option V)} {σ : L2.St} {τ : List (Option V)} {ρ : Rho} {X : Rts} {v : V}
theorem SlOk.tr (hK : U.K = T.K) (hc : U.cls = T.cls) {i : Nat} : ∀ {s : Sl}, SlOk T F H S i s → SlOk U F H S i s
  | .no, _ => trivial
  | .im _ _, h => by obtain ⟨v, e, r⟩ := h; exact ⟨v, e, r.tr hK hc⟩
  | .ow _ _, h => h
  | .al _ _, h => h
theorem RR.tr (hK : U.K = T.K) (hc : U.cls = T.cls) : ∀ {r : Rv}, RR T F H S v r → RR U F H S v r
  | .im _, h => Rep.tr hK hc h
  | .fr _, _ => trivial
  | .bo _ _, h => h
/-- T, but L stands from the start and the slots are fixed -/
def suT (T : Tb) (L : Hp) (s : L2.St) : Tb := { T with lo := L, sg := some s }
theorem En.toSu (I : En T F (σ ++ τ) ρ Φ X H) : En (suT T F σ) F (σ ++ τ) ρ Φ X H :=
  ⟨I.fh, Same.refl _, I.len, fun x z => (by cases z; exact ⟨τ, rfl⟩), I.ph, fun i s h => SlOk.tr (T := T) (U := suT T F σ) rfl rfl (I.sl i s h), (by obtain ⟨A, r, n, f⟩ := I.rt; exact ⟨A, TrP.tr (T := T) (U := suT T F σ) rfl rfl r, n, f⟩), I.io, I.lk, I.lkx⟩
theorem En.ofSu [NoSg T] {L : Hp} {s : L2.St} (hl : Same T.lo L) (I : En (suT T L s) F S ρ Φ X H) : En T F S ρ Φ X H :=
  ⟨I.fh, hl.trans I.lo, I.len, fun s z => (by rw [NoSg.h] at z; cases z), I.ph, fun i x h => SlOk.tr (T := suT T L s) (U := T) rfl rfl (I.sl i x h), (by obtain ⟨A, r, n, f⟩ := I.rt; exact ⟨A, TrP.tr (T := suT T L s) (U := T) rfl rfl r, n, f⟩), I.io, I.lk, I.lkx⟩
/-- a new thing stays, if none of its kind is one's own -/
theorem En.add {d : Addr} {o : HO} (I : En T F S ρ Φ X H) (hF : F d = none) (hd : H d = some o) (hΦ : Φ d = none) (no : ∀ x, ¬ Shp T o x) : En T (upd F d o) S ρ Φ X H := by
  have ex : Same F (upd F d o) := fun a u e => by rw [upd_ne (ne_of_none e hF)]; exact e
  refine ⟨fun a u e => ?_, fun a u z => ex a u (I.lo a u z), I.len, I.sg, fun a u e => ?_, fun k s e => (I.sl k s e).mono ex (KeepK.same (fun _ _ z => z)), ?_, I.io, fun a u e => ?_, fun a z => (I.lkx a z).imp id fun y q => y (by cases e : F a with | none => rfl | some w => rw [ex a w e] at q; cases q)⟩
  · by_cases z : a = d
    · subst z; rw [upd_same] at e; cases e; exact .inl hd
    · rw [upd_ne z] at e; exact I.fh a u e
  · have z : a ≠ d := fun z => by subst z; rw [hΦ] at e; cases e
    have q := I.ph a u e
    exact ⟨q.1, by rw [upd_ne z]; exact q.2⟩
  · obtain ⟨A, r, n, f⟩ := I.rt
    refine ⟨A, r.keep ex fun _ _ => rfl, n, fun a ha => ⟨?_, (f a ha).2⟩⟩
    obtain ⟨o', e, x, sh⟩ := r.dom a ha
    have z : a ≠ d := fun z => by subst z; rw [hd] at e; cases e; exact no x sh
    rw [upd_ne z]; exact (f a ha).1
  · by_cases z : a = d
    · subst z; rw [upd_same] at e; cases e; exact .inl hd
    · rw [upd_ne z] at e; exact I.lk a u e
end
section
variable {T : Tb} {W : Wx} {n : Nat} {F F1 F2 F0 H H0 H1 H2 : Hp} {Φ : Frm} {σ σ0 σ1 σ2 : L2.St} {τ : List (Option V)} {ρ ρ0 ρ1 ρ2 ρe : Rho} {D : Ends} {v : V}
/-! ### raise X(e) -/
def tRaiseX (C : Addr) (W : WX) (ta : TA) : TS := fun _ σ H => tMkEx C ta σ H fun cls d H' => W cls d σ H'
def raise1 (c : Nat) : Option (Py × Rho) → SR
  | some (w, ρ) => .ex c w ρ
  | none => .st
def mRaise (c : Nat) (m : ME) : MS := fun ρ => (m ρ).then fun r ρ1 => raise1 c (frz1 ρ1 r)
theorem ss_raise {te : TE} {m : ME} {C : Addr} (c : Nat) (hc : T.cls c = C) (h : SE T W n te m) : SS T W n (tRaiseX C W (tCons te tNil)) (mRaise c m) := fun F H σ τ ρ Φ D hn I q => by
  subst hc
  refine ss_then h hn I q fun v r ρ1 F1 H1 s1 I1 rr q1 => ?_
  cases hd : frz1 ρ1 r with
  | none => rw [hd] at q1; exact q1.elim
  | some z =>
    obtain ⟨w, ρ2⟩ := z
    rw [hd] at q1
    obtain ⟨F2, s2, I2, r2⟩ := frz1_ok (X := []) (by rw [List.append_nil]; exact I1) rr hd
    refine ⟨_, rfl, fun d hn' => ?_⟩
    exact q1 d v σ F2 _ s2 hn (I2.grow hn') r2 upd_same (sm_none I2.fh hn') (out_none I2.ph hn')
/-! ### try: .. except X as e: return .. -/
def try3 : ER → SR
  | .ok r ρ => .rt r ρ
  | _ => .st
def try2 (su : ME) : Option Rho → SR
  | some ρ => try3 (su ρ)
  | none => .st
def try1 (n : Nat) (cs : List Nat) (i : Nat) (su : Nat → Py → ME) : SR → SR
  | .ex c w ρ1 => if c < n then (if cs.contains c = true then try2 (su c w) (setS ρ1 i .no) else .ex c w ρ1) else .st
  | x => x
def mTryR (n : Nat) (cs : List Nat) (i : Nat) (mb : MS) (su : Nat → Py → ME) : MS := fun ρ => try1 n cs i su (mb ρ)
theorem ss_tryR [hT : NoSg T] {nc : Nat} {cs : List Nat} {i : Nat} {cv : Value} {tb : WX → TS} {te : Addr → Value → Option Addr → TE} {mb : MS} {su : Nat → Py → ME} (hi : i < n)
    (hx : ∀ c, c < nc → PySem.W.exmOne T.K (.ref (T.cls c)) cv = some (cs.contains c))
    (hb : ∀ W', SS T W' n (tb W') mb)
    (hs : ∀ (c : Nat) (w : Py) (a d : Addr) (v : V) (L : Hp) (s : L2.St), c < nc → L d = some (.xd [("what", v)]) → Rep T L v w → s[i]? = some (some (.ref a)) → s.length = n → SE (suT T L s) (fun _ _ _ _ => False) n (te a (.ref (T.cls c)) (some d)) (su c w)) :
    SS T W n (fun D σ H => tb (wAs T.K cv i (fun a cls d => tRet (te a cls d)) W D) D σ H) (mTryR nc cs i mb su) := fun F H σ τ ρ Φ D hn I q => by
  refine hb _ F H σ τ ρ Φ D hn I ?_
  unfold mTryR at q
  cases e : mb ρ with
  | nx ρ' => rw [e] at q; exact q
  | rt r ρ' => rw [e] at q; exact q
  | bk ρ' => rw [e] at q; exact q
  | ct ρ' => rw [e] at q; exact q
  | st => rw [e] at q; exact q
  | ex c w ρ1 =>
    rw [e] at q
    have q : SPost T W n F τ Φ D (if c < nc then (if cs.contains c = true then try2 (su c w) (setS ρ1 i .no) else .ex c w ρ1) else .st) := q
    intro d v σ' F' H' f hn' I' rep hd hF hΦ
    by_cases hc : c < nc
    · rw [if_pos hc] at q
      refine ⟨cs.contains c, hx c hc, fun hy a ha => ?_, fun hno => ?_⟩
      · rw [if_pos hy] at q
        cases es : setS ρ1 i .no with
        | none => rw [es] at q; exact q.elim
        | some ρ2 =>
          rw [es] at q
          have q : SPost T W n F τ Φ D (try3 (su c w ρ2)) := q
          have I1 := I'.add hF hd hΦ (fun x sh => by cases sh)
          obtain ⟨h1, h2⟩ := setS_some es
          obtain ⟨Z, I2⟩ := I1.empty h1
          rw [← h2] at I2
          have sa : Same F' (upd F' d (.xd [("what", v)])) := fun b o e => by rw [upd_ne (ne_of_none e hF)]; exact e
          have e9 : wipeO [i] ρ1 = some ρ2 := by show wipe1 (wipeO []) (setS ρ1 i .no) = some ρ2; rw [es]; rfl
          have I3 : En T (upd F' d (.xd [("what", v)])) (σ'.set i (some (.ref a)) ++ τ) ρ2 Φ [] H' := wipe_to (vs := [i]) I1 e9 (by rw [List.length_set]) fun j hj => List.getElem?_set_ne fun z => hj (by rw [z]; exact List.mem_singleton.mpr rfl)
          have hl : (σ'.set i (some (.ref a))).length = n := by rw [List.length_set]; exact hn'
          have hi' : (σ'.set i (some (.ref a)))[i]? = some (some (.ref a)) := List.getElem?_set_self (by rw [hn']; exact hi)
          refine hs c w a d v _ _ hc upd_same (rep.mono sa) hi' hl _ H' _ τ ρ2 Φ _ hl I3.toSu ?_
          cases e3 : su c w ρ2 with
          | st => rw [e3] at q; exact q.elim
          | ex c' w' ρ3 => rw [e3] at q; exact q.elim
          | ok r ρ3 =>
            rw [e3] at q
            intro v' F4 H4 s4 I4 rr
            exact q v' _ F4 H4 ((f.trans sa).trans s4) hl (I4.ofSu I1.lo) (RR.tr (T := suT T (upd F' d (.xd [("what", v)])) (σ'.set i (some (.ref a)))) (U := T) rfl rfl rr)
      · rw [if_neg (by rw [hno]; exact Bool.false_ne_true)] at q
        exact q d v σ' F' H' f hn' I' rep hd hF hΦ
    · rw [if_neg hc] at q
      exact q.elim
end
/-! ### what the suite asks of its exception -/
/-- e.what -/
def tWhatG (Cs : List Addr) (a : Addr) (cls : Value) (d : Option Addr) (te : TE) : TE := fun σ H Q => ∃ C, C ∈ Cs ∧ tWhat C a cls d te σ H Q
theorem pe_whatG {X : Cx} {a : Addr} {oe : Obj} {cls : Value} {d : Option Addr} {pn : List (Addr × Obj)} {e : Expr} {te : TE} {pos : Pos} {Cs : List Addr} (T : ∀ C ∈ Cs, ∃ nx fI, PySem.ExX.ExTxt X.K X.mg nx C fI) (hz : Zc cls d oe) (hf : ∃ vs, oe.data = .fields vs) (he : PE (X.suite a ((a, oe) :: pn)) e te)
    (hb : attributeBase e "what" X.env (eval e X.env) = eval e X.env := by rfl) :
    PE (X.suite a ((a, oe) :: pn)) (.Attribute e "what" pos) (tWhatG Cs a cls d te) := ⟨fun pins s σ H Q I h => by
  obtain ⟨C, hC, h⟩ := h
  obtain ⟨nx, fI, t⟩ := T C hC
  exact (pe_what t hz hf he hb).run pins s σ H Q I h⟩
theorem En.suEq {T : Tb} {n : Nat} {F H L : Hp} {Φ : Frm} {σ s : L2.St} {τ : List (Option V)} {ρ : Rho} {X : Rts} (I : En (suT T L s) F (σ ++ τ) ρ Φ X H) (hn : σ.length = n) (hl : s.length = n) : σ = s := by
  obtain ⟨τ', e⟩ := I.sg s rfl
  exact (List.append_inj e (by rw [hn, hl])).1
theorem se_what {T : Tb} {W : Wx} {n : Nat} {L : Hp} {s : L2.St} {i : Nat} {a d : Addr} {v : V} {w : Py} {C : Addr} {Cs : List Addr} (hC : C ∈ Cs) (hd : L d = some (.xd [("what", v)])) (r : Rep T L v w) (hs : s[i]? = some (some (.ref a))) (hl : s.length = n) :
    SE (suT T L s) W n (tWhatG Cs a (.ref C) (some d) (tVar i)) (mC w) := fun F H σ τ ρ Φ Q hn I q => by
  have es := I.suEq hn hl
  subst es
  refine ⟨C, hC, .ref a, hs, rfl, rfl, d, v, rfl, I.fh.plain (I.lo _ _ hd) (fun z => z), ?_⟩
  exact q v F H (Same.refl F) I (Rep.mono (T := suT T L σ) (G := F) I.lo (Rep.tr (T := T) (U := suT T L σ) rfl rfl r))
end Mr
/-! Dp: isinstance, calls by keywords, a law's own end; rules of the walk -/
namespace Mr
open PySem PySem.Spec PyProof.Rows L2
def pick {α : Type} : List Nat → List α → List α
  | [], _ => []
  | i :: is, l => (match l[i]? with
    | some a => a :: pick is l
    | none => pick is l)
theorem pick_vals {vs : List V} {us : List Value} (h : Vals vs us) : ∀ ix : List Nat, Vals (pick ix vs) (pick ix us)
  | [] => .nil
  | i :: ix => by
    have t := pick_vals h ix
    cases e : vs[i]? with
    | some v =>
      obtain ⟨u, e2, r⟩ := h.get e
      simp only [pick, e, e2]
      exact .cons r t
    | none =>
      have l := h.length
      have e2 : us[i]? = none := by
        rw [List.getElem?_eq_none_iff] at e ⊢
        omega
      simp only [pick, e, e2]
      exact t
/-- a def with defaults and no parameters by keyword alone, called by keywords -/
theorem kbn {K : PySem.W.Frag} {x qual : Str} {params : Arguments} {body : List Stmt} {scope : Scope} {dvs : List V} {kws : List (Str × V)} {f : Addr} {fd : FuncData} {ps : List Str}
    (F : FunD K x qual params body scope dvs kws f fd) (n : Nat) (ks : List Str) (ix : List Nat) (hd : dvs ≠ [])
    (h : ∀ (T : Addr) (kV doc pm : Value) (an : Option Addr) (cdv ct : Value) (us its ws : List Value), us.length = n → its.length = dvs.length → ws.length = ks.length →
      ∃ k, bindArgs (PySem.W.fnOf x qual params body scope (.ref T) kV doc pm an cdv ct) ⟨us, ks.zip ws⟩ = seqItems? (.ref T) >>= k ∧ k (some its.toArray) = pure (ps.zip (pick ix (us ++ ws ++ its)))) :
    ∃ its : List Value, KBn K fd ps n ks (fun us ws => pick ix (us ++ ws ++ its)) (fun vs zs => pick ix (vs ++ zs ++ dvs)) := by
  obtain ⟨oc, od, dV, kV, doc, pm, an, cdv, ct, osl, rfl, lk, hcd, hD, hK⟩ := F.ex
  rcases hD with ⟨e, _⟩ | ⟨_, T, o, its, m, rfl, lT, oT, rT⟩
  · exact (hd e).elim
  · refine ⟨its, ⟨fun s us ws X l1 l2 => ?_, fun r1 r2 => pick_vals ((r1.append r2).append rT) ix⟩⟩
    obtain ⟨k, e1, e2⟩ := h T kV doc pm an cdv ct us its ws l1 rT.length.symm l2
    refine BindsTo.of_looks fun M => ?_
    rw [e1]
    exact looks_items X lT oT (.of_pure e2)
/-- what a class of errors says, so that isinstance asks its instances -/
structure ExIs (K : PySem.W.Frag) (C : Addr) : Prop where
  c : (PySem.W.clsIn K C).isSome = true
  g : PySem.W.findIn K (.ref C) "__getattribute__" = some (some (.builtin "BaseException.__getattribute__"))
  k : PySem.W.findIn K (.ref C) "__getattr__" = some none
  s : PySem.W.subIn K (.ref C) (.type "BaseException") = some true
  a : PySem.W.findIn K (.ref C) "__class__" = some (some (.builtin "object.__class__"))
  n : PySem.W.specialIn K (.builtin "object.__class__") "__get__" = some (some (.builtin "getset_descriptor.__get__"))
  t : PySem.W.takesIn K (.builtin "object.__class__") = some true
  m : PySem.W.mroIn K C (.type "object") = some true
/-- isinstance(e, c), e what the suite holds; its dict d is tracked -/
def rIsX (K : PySem.W.Frag) (Cs : List Addr) (a : Addr) (cls : Value) (d : Option Addr) : List V → Hp → VK → Prop := fun xs H Q => ∃ (C dd : Addr) (c : V) (u : Value) (b : Bool) (fs : List (Str × V)), C ∈ Cs ∧ cls = .ref C ∧ d = some dd ∧ H dd = some (.xd fs) ∧ xs = [.ref a, c] ∧ ClsV c u ∧ PySem.W.kitOne K (.ref C) u = some b ∧ Q (.bl b) H
theorem call_isX {X : Cx} {a : Addr} {oe : Obj} {cls : Value} {d : Option Addr} {pn : List (Addr × Obj)} {Cs : List Addr} (T : ∀ C ∈ Cs, ExIs X.K C) (hz : Zc cls d oe) (hf : ∃ vs, oe.data = .fields vs) : CallR (X.suite a ((a, oe) :: pn)) (.builtin "isinstance") (rIsX X.K Cs a cls d) := by
  intro pins s σ H xs us Q I r h
  obtain ⟨C, dd, c, u, b, fs, hC, rfl, rfl, hd, rfl, k, e, q⟩ := h
  obtain ⟨u1, u2, rfl, r1, r2⟩ := vals2 r
  have e2 := k.eq r2
  subst e2
  cases (show u1 = Value.ref a from r1)
  obtain ⟨hget, _⟩ := I.pin (a, oe) (List.mem_append.mpr (.inl List.mem_cons_self))
  obtain ⟨vs, hv⟩ := hf
  obtain ⟨mA, hns, hr⟩ := (show ObjOk X.prog X.w H s.heap dd (.xd fs) from I.hok dd _ hd)
  obtain ⟨od, ho, _⟩ := lookIn_ns hns
  have J : PySem.W.InstAt s.heap a oe C (some od) := ⟨hget, hz.1, by unfold PySem.W.notCls; rw [hv] <;> rfl, by rw [hz.2]; exact ho⟩
  have t := T C hC
  exact PySem.W.kia_one (PySem.W.kitx_exc t.c t.g t.k t.s t.a t.n t.t t.m) I.kIn J e (fun z => nomatch z) fun tk => ⟨.bl b, H, I.kept (t' := tk) fun _ _ z => z, rfl, q⟩
section
variable {X : Cx} {C fI : Addr}
/-- raise x(a) -/
theorem ps_raiseX {x : Str} {a : Expr} {ta : TA} {W : WX} {p pos pos2 : Pos} {k : Nat} (hc : X.calm = true) (T : PySem.ExX.ExTxt X.K X.mg x C fI) (hr : Room k X.A) (tk : Takes X W) (ha : PA X [a] ta) (hg : Gl X x := by rfl)
    (he : starEach (a :: []) X.env = (false, eval a X.env) :: starEach [] X.env := by rfl) (hpl : (backTo pos (starEach [] X.env)).any (·.1) = false := by rfl) (hdb : (x == ("__debug__" : Str)) = false := by decide) :
    PS X (.Raise (some (.Call (.Name x p) [a] [] pos)) none pos2) (tRaiseX C W ta) := ps_raise hc tk (pmk_ex T hr ha hg he hpl hdb)
/-- a statement that is never come to -/
theorem ps_dead {st : Stmt} : PS X st (fun _ _ _ => False) := ⟨fun _ _ _ _ _ _ h => h.elim⟩
end
/-- isinstance(e, (c1, c2, ..)), the tuple just laid -/
def rIsXT (K : PySem.W.Frag) (Cs : List Addr) (a : Addr) (cls : Value) (d : Option Addr) : List V → Hp → VK → Prop := fun xs H Q => ∃ (C dd tp : Addr) (cs : List V) (us : List Value) (b : Bool) (fs : List (Str × V)), C ∈ Cs ∧ cls = .ref C ∧ d = some dd ∧ H dd = some (.xd fs) ∧ xs = [.ref a, .ref tp] ∧ H tp = some (.tup cs) ∧ Paired ClsV cs us ∧ PySem.W.kitAny K (.ref C) us = some b ∧ Q (.bl b) H
theorem call_isXT {X : Cx} {a : Addr} {oe : Obj} {cls : Value} {d : Option Addr} {pn : List (Addr × Obj)} {Cs : List Addr} (T : ∀ C ∈ Cs, ExIs X.K C) (hz : Zc cls d oe) (hf : ∃ vs, oe.data = .fields vs) : CallR (X.suite a ((a, oe) :: pn)) (.builtin "isinstance") (rIsXT X.K Cs a cls d) := by
  intro pins s σ H xs us Q I r h
  obtain ⟨C, dd, tp, cs, ws, b, fs, hC, rfl, rfl, hd, rfl, hT, k, e, q⟩ := h
  obtain ⟨u1, u2, rfl, r1, r2⟩ := vals2 r
  cases (show u2 = Value.ref tp from r2)
  cases (show u1 = Value.ref a from r1)
  obtain ⟨hget, _⟩ := I.pin (a, oe) (List.mem_append.mpr (.inl List.mem_cons_self))
  obtain ⟨vs, hv⟩ := hf
  obtain ⟨mA, hns, hr⟩ := (show ObjOk X.prog X.w H s.heap dd (.xd fs) from I.hok dd _ hd)
  obtain ⟨od, ho, _⟩ := lookIn_ns hns
  have J : PySem.W.InstAt s.heap a oe C (some od) := ⟨hget, hz.1, by unfold PySem.W.notCls; rw [hv] <;> rfl, by rw [hz.2]; exact ho⟩
  have t := T C hC
  obtain ⟨_, its, rv, o, h1, h2, n, h3⟩ := (show ObjOk X.prog X.w H s.heap tp (.tup cs) from I.hok tp _ hT)
  have e3 := ClsV.all k rv
  subst e3
  obtain ⟨oc, od2, dt, sl⟩ := o
  simp only at h2 h3
  subst h2 h3
  exact PySem.W.kia_tup (PySem.W.kitx_exc t.c t.g t.k t.s t.a t.n t.t t.m) I.kIn J h1 e (fun z => nomatch z) fun tk => ⟨.bl b, H, I.kept (t' := tk) fun _ _ z => z, rfl, q⟩
section
variable {T : Tb} {W : Wx} {n : Nat} {L : Hp} {s : L2.St} {i : Nat} {a d C : Addr} {v : V} {Cs : List Addr}
theorem se_isX {D : Addr} {b : Bool} (hC : C ∈ Cs) (hd : L d = some (.xd [("what", v)])) (hs : s[i]? = some (some (.ref a))) (hl : s.length = n) (hk : PySem.W.kitOne T.K (.ref C) (.ref D) = some b) :
    SE (suT T L s) W n (tCB (rIsX T.K Cs a (.ref C) (some d)) (tCons (tVar i) (tCons (tC (.ref D)) tNil))) (mC (.bl b)) := fun F H σ τ ρ Φ Q hn I q => by
  have es := I.suEq hn hl
  subst es
  refine ⟨.ref a, hs, C, d, .ref D, .ref D, b, _, hC, rfl, rfl, I.fh.plain (I.lo _ _ hd) (fun z => z), rfl, .own D, hk, ?_⟩
  exact q (.bl b) F H (Same.refl F) I (.bl b)
theorem se_isXT {Ds : List Addr} {b : Bool} {tt : TA} (hC : C ∈ Cs) (hd : L d = some (.xd [("what", v)])) (hs : s[i]? = some (some (.ref a))) (hl : s.length = n) (hk : PySem.W.kitAny T.K (.ref C) (Ds.map Value.ref) = some b) (hz : Ds.length ≤ sizeLine) (ht : ∀ σ H Q, Q (Ds.map V.ref) H → tt σ H Q) :
    SE (suT T L s) W n (tCB (rIsXT T.K Cs a (.ref C) (some d)) (tCons (tVar i) (tCons (tTup tt) tNil))) (mC (.bl b)) := fun F H σ τ ρ Φ Q hn I q => by
  have es := I.suEq hn hl
  subst es
  refine ⟨.ref a, hs, ht _ _ _ ⟨by rw [List.length_map]; exact hz, fun p hp => ?_⟩⟩
  have hdd := I.fh.plain (I.lo _ _ hd) (fun z => z)
  have pr : ∀ l : List Addr, Paired ClsV (l.map V.ref) (l.map Value.ref) := fun l => by
    induction l with
    | nil => exact .nil
    | cons x l ih => exact .cons (.own x) ih
  refine ⟨C, d, p, Ds.map V.ref, Ds.map Value.ref, b, _, hC, rfl, rfl, by rw [upd_ne (ne_of_none hdd hp)]; exact hdd, rfl, upd_same, pr Ds, hk, ?_⟩
  exact q (.bl b) F _ (Same.refl F) (I.grow hp) (.bl b)
end
section
variable {T : Tb} {W : Wx} {n : Nat} {F F1 F2 F' H H1 H2 H' : Hp} {Φ : Frm} {S τ : List (Option V)} {σ : L2.St} {ρ ρ1 ρ2 : Rho} {X : Rts} {v : V} {Q : VK}
/-! ### isinstance(x, T) -/
theorem ty_of {x : V} {d : Py} {s : String} (h : Rep T H x d) (e : tyOfD d = some s) : TyX T.K H x (.type s) := by
  cases h with
  | non => cases e; exact .base .non
  | bl b => cases e; exact .base (.bl b)
  | int i => cases e; exact .base (.int i)
  | str z => cases e; exact .base (.str z)
  | tup hp _ =>
    cases e
    rcases hp with (z | ⟨o, z⟩) | ⟨o, _, _, z, c, _⟩
    · exact .base (.tup z)
    · exact .fTuple z
    · exact .kTuple z c
  | lst hp _ => cases e; exact .base (.lst hp)
  | scr hp _ =>
    cases e
    rcases hp with (z | ⟨o, z⟩) | ⟨o, _, _, z, c, _⟩
    · exact .base (.lst z)
    · exact .base (.frz z)
    · exact .kList z c
  | dic hp _ _ =>
    cases e
    rcases hp with z | ⟨o, z⟩
    · exact .base (.dK z)
    · exact .fDict z
  | dit hp _ _ =>
    cases e
  | obj _ _ _ => cases e
  | fz _ => cases e
def tyNames : List String := ["NoneType", "bool", "int", "str", "tuple", "list", "dict"]
theorem tyOfD_in {d : Py} {s : String} (e : tyOfD d = some s) : s ∈ tyNames := by
  cases d <;> cases e <;> decide
def isB (t : String) (s : String) : Bool := s == t || (s == "bool" && t == "int")
def pyIsTy (t : String) (d : Py) : OV := blO ((tyOfD d).map (isB t))
theorem se_isTy {t : String} {te : TE} {m : ME} (hk : ∀ s ∈ tyNames, kitB s t = some (isB t s)) (h : SE T W n te m) : SE T W n (tCB (rIsi T.K) (tCons te (tCons (tC (.ty t)) tNil))) (mUn (pyIsTy t) m) := fun F H σ τ ρ Φ Q hn I q => by
  refine se_then h hn I q fun v x ρ1 F1 H1 s1 I1 r1 q1 => ?_
  cases hx : datR ρ1 x with
  | none => rw [hx] at q1; exact q1.elim
  | some d =>
    rw [hx] at q1
    have q1 : EPost T W F1 σ τ Φ Q ((pyIsTy t d).er ρ1) := q1
    unfold pyIsTy at q1
    cases e : tyOfD d with
    | none => rw [e] at q1; exact q1.elim
    | some s =>
      rw [e] at q1
      have rp := r1.readR (X := []) (by rw [List.append_nil]; exact I1) hx
      refine ⟨v, .ty t, .type s, .type t, isB t s, rfl, .ty t, ty_of rp e, kit_ty (hk s (tyOfD_in e)), ?_⟩
      exact q1 (.bl (isB t s)) F1 H1 (Same.refl F1) I1.dropAll (.bl _)
/-! ### calls by keywords: the values picked by their places -/
theorem RRL.at {vs : List V} {rs : List Rv} (h : RRL T F H S vs rs) : ∀ (i : Nat) (r : Rv), rs[i]? = some r → ∃ v, vs[i]? = some v ∧ RR T F H S v r := by
  induction h with
  | nil => exact fun i r e => by cases e
  | cons a _ ih =>
    intro i r e
    cases i with
    | zero => cases e; exact ⟨_, rfl, a⟩
    | succ i => exact ih i r e
theorem pick_rrl {vs : List V} {rs : List Rv} (h : RRL T F H S vs rs) : ∀ ix : List Nat, RRL T F H S (pick ix vs) (pick ix rs)
  | [] => .nil
  | i :: ix => by
    have t := pick_rrl h ix
    cases e : rs[i]? with
    | some r =>
      obtain ⟨v, e2, s⟩ := h.at i r e
      simp only [pick, e, e2]
      exact .cons s t
    | none =>
      have l := h.length
      have e2 : vs[i]? = none := by
        rw [List.getElem?_eq_none_iff] at e ⊢
        omega
      simp only [pick, e, e2]
      exact t
theorem rtsL_take : ∀ {vs : List V} {rs : List Rv} {i : Nat} {v : V} {r : Rv}, vs[i]? = some v → rs[i]? = some r → (rtsL vs rs).Perm (r.rts v ++ rtsL vs (rs.set i (.im .non)))
  | [], _, _, _, _, e, _ => by cases e
  | _ :: _, [], _, _, _, _, e => by cases e
  | v :: vs, r :: rs, 0, _, _, e, e2 => by cases e; cases e2; exact List.Perm.refl _
  | v :: vs, r :: rs, i + 1, v', r', e, e2 => by
    have ih := rtsL_take (vs := vs) (rs := rs) (i := i) e e2
    show (r.rts v ++ rtsL vs rs).Perm (r'.rts v' ++ (r.rts v ++ rtsL vs (rs.set i (.im .non))))
    refine (List.Perm.append_left _ ih).trans ?_
    rw [← List.append_assoc, ← List.append_assoc]
    exact List.Perm.append_right _ List.perm_append_comm
theorem pick_set {ix : List Nat} {i : Nat} {r : Rv} : ∀ {rs : List Rv}, i ∉ ix → pick ix (rs.set i r) = pick ix rs := fun {rs} h => by
  induction ix with
  | nil => rfl
  | cons j ix ih =>
    have hj : i ≠ j := fun z => h (by rw [z]; exact List.mem_cons_self)
    simp only [pick, List.getElem?_set_ne hj]
    rw [ih fun z => h (List.mem_cons_of_mem _ z)]
theorem pick_rts {vs : List V} : ∀ {ix : List Nat} {rs : List Rv}, vs.length = rs.length → ix.Nodup → ∃ R, (rtsL (pick ix vs) (pick ix rs) ++ R).Perm (rtsL vs rs)
  | [], rs, _, _ => ⟨rtsL vs rs, List.Perm.refl _⟩
  | i :: ix, rs, hl, nd => by
    have nd := List.nodup_cons.mp nd
    cases e : rs[i]? with
    | none =>
      have e2 : vs[i]? = none := by rw [List.getElem?_eq_none_iff] at e ⊢; omega
      simp only [pick, e, e2]
      exact pick_rts hl nd.2
    | some r =>
      obtain ⟨v, e2⟩ : ∃ v, vs[i]? = some v := ⟨_, List.getElem?_eq_getElem (by rw [hl]; exact (List.getElem?_eq_some_iff.mp e).1)⟩
      simp only [pick, e, e2]
      obtain ⟨R, p⟩ := pick_rts (vs := vs) (ix := ix) (rs := rs.set i (.im .non)) (by rw [List.length_set]; exact hl) nd.2
      rw [pick_set nd.1] at p
      refine ⟨R, ?_⟩
      show ((r.rts v ++ rtsL (pick ix vs) (pick ix rs)) ++ R).Perm _
      rw [List.append_assoc]
      exact (List.Perm.append_left _ p).trans (rtsL_take e2 e).symm
def callK2 (m : DM) (ix : List Nat) (ds : List Py) (ρ : Rho) (rs : List Rv) : ER := callR m ρ (pick ix (rs ++ ds.map .im))
def callK (m : DM) (n k : Nat) (ix : List Nat) (ds : List Py) (ρ : Rho) (rs : List Rv) : ER := if (decide (rs.length = n + k) && decide ix.Nodup) = true then callK2 m ix ds ρ rs else .st
def mCallK (m : DM) (n k : Nat) (ix : List Nat) (ds : List Py) (ma : MA) : ME := fun ρ => aBind (ma ρ) fun rs ρ1 => callK m n k ix ds ρ1 rs
theorem se_callN [NoSg T] {a k : Nat} {m : DM} {t tk t0 : TA} {ma : MA} {E : XK} {ix : List Nat} {dvs : List V} {ds : List Py} (hE : ∀ c d σ H', W c d σ H' → E c d H') (hd : Dfl T dvs ds)
    (ht : ∀ σ H Q, (t0 σ H fun ws H2 => (ws.take a).length = a ∧ (ws.drop a).length = k ∧ spM T m (pick ix (ws ++ dvs)) H2 Q E) = tCallN a k (spM T m) (fun vs zs => pick ix (vs ++ zs ++ dvs)) E t tk σ H Q) (h : SA T W n t0 ma) : SE T W n (tCallN a k (spM T m) (fun vs zs => pick ix (vs ++ zs ++ dvs)) E t tk) (mCallK m a k ix ds ma) := fun F H σ τ ρ Φ Q hn I q => by
  rw [← ht]
  refine sa_then h hn I q fun vs rs ρ1 F1 H1 s I1 rr q1 => ?_
  have q1 : EPost T W F1 σ τ Φ Q (if (decide (rs.length = a + k) && decide ix.Nodup) = true then callK2 m ix ds ρ1 rs else .st) := q1
  by_cases hz : (decide (rs.length = a + k) && decide ix.Nodup) = true
  · rw [if_pos hz] at q1
    obtain ⟨z1, z2⟩ := Bool.and_eq_true_iff.mp hz
    have z1 := of_decide_eq_true z1
    have z2 := of_decide_eq_true z2
    have hl := rr.length
    have rr2 := rr.app (RRL.dflN (F := F1) (H := H1) (σ := σ ++ τ) hd)
    obtain ⟨R, p⟩ := pick_rts (ix := ix) rr2.length z2
    have I2 : En T F1 (σ ++ τ) ρ1 Φ (rtsL (vs ++ dvs) (rs ++ ds.map .im)) H1 := by rw [rtsL_app hl, rtsL_im hd, List.append_nil]; exact I1
    exact ⟨by rw [List.length_take]; omega, by rw [List.length_drop]; omega, call_core (fun c d H' => hE c d σ H') (I2.permX p.symm).keepL (pick_rrl rr2 ix) q1⟩
  · rw [if_neg hz] at q1; exact q1.elim
end
/-- a class by its number -/
theorem getD_in {l : List Addr} {c : Nat} (h : c < l.length) : l.getD c 0 ∈ l := by
  rw [List.getD_eq_getElem?_getD, List.getElem?_eq_getElem h]
  exact List.getElem_mem h
/-- a def without defaults, called by keywords -/
theorem kbn0 {K : PySem.W.Frag} {x qual : Str} {st : Stmt} {f : Addr} {fd : FuncData} {ps : List Str} (F : Fun K x qual st f fd) (n : Nat) (ks : List Str) (ix : List Nat)
    (h : ∀ (kV doc pm : Value) (an : Option Addr) (cdv ct : Value) (us ws : List Value), us.length = n → ws.length = ks.length →
      bindArgs (PySem.W.fnOf x qual (defArgs st) (defBody st) (defScope st) .none kV doc pm an cdv ct) ⟨us, ks.zip ws⟩ = pure (ps.zip (pick ix (us ++ ws ++ [])))) :
    KBn K fd ps n ks (fun us ws => pick ix (us ++ ws ++ [])) (fun vs zs => pick ix (vs ++ zs ++ [])) := by
  obtain ⟨oc, od, kV, doc, pm, an, cdv, ct, osl, rfl, lk, hcd⟩ := F.ex
  exact ⟨fun s us ws _ l1 l2 => .of_eq (h kV doc pm an cdv ct us ws l1 l2), fun r1 r2 => pick_vals ((r1.append r2).append .nil) ix⟩
/-- f(k = v, ..), no value by its place -/
theorem pe_callN0 {X : Cx} {CX : CXT} {k : Nat} {f : Addr} {fd : FuncData} {ps ks : List Str} {sp : Sp} {E : XK} {x : Str} {p pos : Pos} {kws : List Keyword} {tk : TA} {g : List Value → List Value → List Value} {gV : List V → List V → List V}
    (F : FnOk X.prog X.w X.K X.mg X.base CX k f fd ps sp) (hr : Room k X.A) (hg : Gl X x) (hm : X.mg x = some (.ref f)) (hk : PySem.W.keepIn X.K (.ref f) = true) (hb : KBn X.K fd ps 0 ks g gV) (hx : Passes CX X E)
    (hkw : PK X kws tk) (hall : (backToKw pos (keywordEach kws X.env)).all (·.1.isSome) = true := by rfl) (hks : (backToKw pos (keywordEach kws X.env)).filterMap (·.1) = ks := by rfl)
    (hdb : (x == ("__debug__" : Str)) = false := by decide) (hpl : ((backTo pos (starEach [] X.env)).any (·.1) || (backToKw pos (keywordEach kws X.env)).any (·.1.isNone)) = false := by rfl) :
    PE X (.Call (.Name x p) [] kws pos) (tCallN 0 ks.length sp gV E tNil tk) := ⟨fun pins s σ H Q I h => by
  refine wpAny_Call_Name_kw (ld_glob I hg hm ?_ hdb)
  refine PySem.W.callWith_KW0 (h₀ := X.base) I.ok.mod.kin hk hall ?_ hpl
  refine thn (hkw.run pos pins s σ H _ I h) fun ws s2 hh => ?_
  obtain ⟨zs, H2, I2, rz, l1, l2, q2⟩ := hh
  refine ⟨I2.kIn, ?_⟩
  rw [hks]
  exact run_fnN (us := []) (vs := []) F hr hb hx I2 .nil rz rfl l2 q2⟩
/-! ### rules whose reading names K by itself -/
section
variable {X : Cx} {K : PySem.W.Frag}
theorem ixA (h : X.K = K) : IxR X (rIx K) := h ▸ ix_seq
theorem slA (h : X.K = K) : SlR X (rSlAll K) := h ▸ sl_all
theorem addA (h : X.K = K) : OpR X (binaryOp .Add) (rAddA K) := h ▸ op_addA
theorem eqA (h : X.K = K) (hu : X.A.units + 64 < cLine) : OpR X (compareOp .Eq) (rEqD K) := h ▸ op_eqD hu
theorem neA (h : X.K = K) (hu : X.A.units + 64 < cLine) : OpR X (compareOp .NotEq) (rNeD K) := h ▸ op_neD hu
theorem lenA (h : X.K = K) : CallR X (.builtin "len") (fun xs H Q => ∃ x n, xs = [x] ∧ LenV K x H n ∧ Q (.int n) H) := h ▸ call_len
theorem isiA (h : X.K = K) : CallR X (.builtin "isinstance") (rIsi K) := h ▸ call_isi
theorem allA (h : X.K = K) (hc : X.calm = true) : CallR X (.builtin "all") (rAll K) := h ▸ cr_all hc
theorem tupA (h : X.K = K) : CallR X (.type "tuple") (fun xs H Q => ∃ p ys, xs = [.ref p] ∧ ((SqL K H p ys ∧ ∀ l, H l = none → Q (.ref l) (upd H l (.tup ys))) ∨ (SqT K H p ys ∧ Q (.ref p) H))) := h ▸ call_tuple_of
theorem lstA (h : X.K = K) : CallR X (.type "list") (fun xs H Q => ∃ p ys, xs = [.ref p] ∧ (SqL K H p ys ∨ SqT K H p ys) ∧ ∀ l, H l = none → Q (.ref l) (upd H l (.lst ys))) := h ▸ call_list_of
theorem truA {a : Expr} {ta : TE} (h : X.K = K) (ha : PE X a ta) (he : ∀ whole, isTrue a X.env whole = (do let v ← whole; standAt a.pos; holding [v] (truthy v))) :
    PT X a (fun σ H Q => ta σ H fun x H' => ∃ k, TruV K x H' k ∧ Q k H') := h ▸ pt_truth ha he
end

/-! ### a law's own end -/
def spLaw (K : PySem.W.Frag) : Sp := fun vs H Q _ => ∃ (a : Addr) (ns : List Int), vs = [.ref a] ∧ SqL K H a (ns.map V.int) ∧ ns.length ≤ 63 ∧ ∀ H', Q (.bl true) H'
theorem repInts {T : Tb} (F : Hp) : ∀ ns : List Int, RepL T F (ns.map V.int) (ns.map Py.int)
  | [] => .nil
  | n :: ns => .cons (.int n) (repInts F ns)
theorem law_imp {T : Tb} [hT : NoSg T] {m : DM} (hi : m.ios = [false]) (h0 : T.lo = fun _ => none) (run : ∀ ns : List Int, ns.length ≤ 63 → ∃ os, m.run [.im false (.scr (ns.map Py.int))] = .ok (.im (.bl true)) os) (vs : List V) (H : Hp) (Q : VK) (E : XK) (h : spLaw T.K vs H Q E) : spM T m vs H Q E := by
  obtain ⟨a, ns, rfl, hS, hl, k⟩ := h
  obtain ⟨os, e⟩ := run ns hl
  refine ⟨by rw [hi]; rfl, H, [.im false (.scr (ns.map Py.int))], ⟨fun _ => none, fun _ => none, fun _ => False⟩, by rw [hi]; rfl, ⟨Sm.refl H, fun b o z => (by rw [h0] at z; cases z), rfl, fun s z => (by rw [hT.h] at z; cases z), fun b o z => (by cases z), fun i s e => ?_, ?_, fun k v z => (by cases z), fun b o z => .inl z, fun b z => z.elim⟩, fun k s e1 e2 => ?_, ?_⟩
  · cases i with
    | zero => cases e; exact ⟨.ref a, rfl, .scr hS (repInts H ns)⟩
    | succ i => cases e
  · exact Sep.nil
  · cases k with
    | zero => cases e1; cases e2
    | succ k => cases e1
  · rw [e]
    exact fun v F' H' _ _ rr => (by cases rr; exact k H')
theorem noCX {P : Program} {w : World} {H : Hp} {s : Shared} {e : Value} {s' : Shared} (h : L2.CX P w [] H s (fun _ _ _ => False) e s') : False := by
  obtain ⟨_, _, _, _, _, _, _, _, _, _, _, _, z⟩ := h
  exact z
theorem passN {X : Cx} (σ : L2.St) : PassesAt (L2.CX X.prog X.w) X σ E0 := fun pins H s e s' I c => passL pins σ H s e s' I c
/-- how often a while may turn -/
def whileFuel : Nat := 1000000
end Mr
/-! Dp: a mirror is run step by step: what runs stands ahead (WE, WA, WS, WI), what waits stands behind it -/
namespace Mr
open PySem L2
/-- an equation that dsimp does not take -/
theorem nr {α : Sort _} {a b : α} (h : a = b) : a = b := h
/-- what waits is not looked at by simp: an instance depends on it -/
class Tg {α : Type} (K : α → Prop) where
  b : Bool
instance {α : Type} {K : α → Prop} : Tg K := ⟨true⟩
def WE (e : ER) (K : ER → Prop) [Tg K] : Prop := K e
def WA (e : AR) (K : AR → Prop) [Tg K] : Prop := K e
def WS (e : SR) (K : SR → Prop) [Tg K] : Prop := K e
def WI (e : IR) (K : IR → Prop) [Tg K] : Prop := K e
/-! ### what waits -/
def kB (k : Rv → Rho → ER) (K : ER → Prop) : ER → Prop := fun e => K (e.bind k)
def kT (k : Rv → Rho → SR) (K : SR → Prop) : ER → Prop := fun e => K (e.then k)
def kI (k : Rv → Rho → IR) (K : IR → Prop) : ER → Prop := fun e => K (e.thenI k)
def kAB (k : List Rv → Rho → ER) (K : ER → Prop) : AR → Prop := fun e => K (aBind e k)
def kAT (k : List Rv → Rho → SR) (K : SR → Prop) : AR → Prop := fun e => K (aThen e k)
def kAI (k : List Rv → Rho → IR) (K : IR → Prop) : AR → Prop := fun e => K (aThenI e k)
def kSq (b : MS) (K : SR → Prop) : SR → Prop := fun e => K (e.bind b)
def kPu (n : Nat) (k : Rv → Rv → Rho → ER) (K : ER → Prop) : ER → Prop := fun e => K (pend1 n k e)
def kA1 (mr : MA) (K : AR → Prop) : ER → Prop := fun e => K (aCons1 mr e)
def kA2 (a : Av) (K : AR → Prop) : AR → Prop := fun e => K (aPre a e)
def kA3 (m : Nat) (K : AR → Prop) : AR → Prop := fun e => K (aPre1 m e)
def kChk (c : Rho → Rv → Bool) (K : ER → Prop) : ER → Prop := fun e => K (chkE c e)
def kAug (K : SR → Prop) : ER → Prop := fun e => K (augS e)
def kMk (n : Nat) (K : ER → Prop) : ER → Prop := fun e => K (make1 n e)
def kTry (n : Nat) (cs : List Nat) (i : Nat) (su : Nat → Py → ME) (K : SR → Prop) : SR → Prop := fun e => K (try1 n cs i su e)
def kSuit (K : SR → Prop) : ER → Prop := fun e => K (try3 e)
def forI (mg : MG) (mb : MS) : IR → SR
  | .ok items ρ1 => forM mg mb items ρ1
  | .ex c w ρ1 => .ex c w ρ1
  | .st => .st
def kFor (mg : MG) (mb : MS) (K : SR → Prop) : IR → Prop := fun e => K (forI mg mb e)
def kLc (vs : List Nat) (mg : MG) (mt me : ME) (K : ER → Prop) : IR → Prop := fun e => K (mLc1 vs mg mt me e)
section
variable {ρ ρ1 ρ2 : Rho} {f g : Py → Py → OV} {h : Py → OV} {fl : List Py → OV} {ma mb mc mt me mo ml mh mi my md mx : ME} {mm mr : MA} {a b : MS} {i j n m : Nat} {r s : Rv} {d e : Py} {io : Bool} {K : ER → Prop} {KA : AR → Prop} {KS : SR → Prop} {KI : IR → Prop} {rs : List Rv} {as : List Av} {c : Nat} {w : Py} {π : List Nat}
  {k : Rv → Rho → ER} {kt : Rv → Rho → SR} {ki : Rv → Rho → IR} {kl : List Rv → Rho → ER} {kls : List Rv → Rho → SR} {kli : List Rv → Rho → IR} {k2 : Rv → Rv → Rho → ER} {ck : Rho → Rv → Bool} {dm : DM} {ds : List Py} {ix : List Nat} {op : MOp} {nm : Str} {okc : Nat → Bool} {q : Nat} {mg : MG} {its : List Py} {ff : List Py → Option (List Py)} {MI' : MI} {su : Nat → Py → ME} {cs vs : List Nat} {cd : Nat → Option Py}
/-! ### a value comes -/
theorem wb_ok : WE (.ok r ρ) (kB k K) = WE (k r ρ) K := nr rfl
theorem wb_ex : WE (.ex c w ρ) (kB k K) = WE (.ex c w ρ) K := nr rfl
theorem wt_ok : WE (.ok r ρ) (kT kt KS) = WS (kt r ρ) KS := nr rfl
theorem wt_ex : WE (.ex c w ρ) (kT kt KS) = WS (.ex c w ρ) KS := nr rfl
theorem wi_ok : WE (.ok r ρ) (kI ki KI) = WI (ki r ρ) KI := nr rfl
theorem wi_ex : WE (.ex c w ρ) (kI ki KI) = WI (.ex c w ρ) KI := nr rfl
theorem wab_ok : WA (.ok as ρ) (kAB kl K) = WE (aBind1 kl (ρ.frontK (nTp as)) (rvs ρ (ρ.length - nTp as) (ρ.length - nTp as) as)) K := nr rfl
theorem wab_ex : WA (.ex c w ρ) (kAB kl K) = WE (.ex c w ρ) K := nr rfl
theorem wat_ok : WA (.ok as ρ) (kAT kls KS) = WS (aThen1 kls (ρ.frontK (nTp as)) (rvs ρ (ρ.length - nTp as) (ρ.length - nTp as) as)) KS := nr rfl
theorem wat_ex : WA (.ex c w ρ) (kAT kls KS) = WS (.ex c w ρ) KS := nr rfl
theorem wai_ok : WA (.ok as ρ) (kAI kli KI) = WI (aThenI1 kli (ρ.frontK (nTp as)) (rvs ρ (ρ.length - nTp as) (ρ.length - nTp as) as)) KI := nr rfl
theorem wai_ex : WA (.ex c w ρ) (kAI kli KI) = WI (.ex c w ρ) KI := nr rfl
theorem ab1_some : aBind1 kl ρ (some rs) = kl rs ρ := nr rfl
theorem at1_some : aThen1 kls ρ (some rs) = kls rs ρ := nr rfl
theorem ai1_some : aThenI1 kli ρ (some rs) = kli rs ρ := nr rfl
theorem ws_nx : WS (.nx ρ) (kSq b KS) = WS (b ρ) KS := nr rfl
theorem ws_rt : WS (.rt r ρ) (kSq b KS) = WS (.rt r ρ) KS := nr rfl
theorem ws_bk : WS (.bk ρ) (kSq b KS) = WS (.bk ρ) KS := nr rfl
theorem ws_ct : WS (.ct ρ) (kSq b KS) = WS (.ct ρ) KS := nr rfl
theorem ws_ex : WS (.ex c w ρ) (kSq b KS) = WS (.ex c w ρ) KS := nr rfl
/-! ### a value waits -/
theorem wp_im : WE (pend (.im d) mb ρ k2) K = WE (mb ρ) (kB (k2 (.im d)) K) := nr rfl
theorem wp_va : WE (pend (.bo i []) mb ρ k2) K = WE (mb ρ) (kB (k2 (.bo i [])) K) := nr rfl
theorem wp_fr : WE (pend (.fr d) mb ρ k2) K = WE (mb (ρ ++ [.ow false d])) (kPu ρ.length k2 K) := nr rfl
theorem wp_bo : WE (pend (.bo i (n :: π)) mb ρ k2) K = WE (mb (ρ ++ [.al i (n :: π)])) (kPu ρ.length k2 K) := nr rfl
theorem wpu_ok : WE (.ok s ρ) (kPu n k2 K) = WE (pend2 n k2 s ρ (popR ρ n)) K := nr rfl
theorem wpu_ex : WE (.ex c w ρ) (kPu n k2 K) = WE (.ex c w (ρ.front n)) K := nr rfl
theorem pend2_im : pend2 n k2 (.im d) ρ (some r) = k2 r (.im d) (ρ.front n) := nr rfl
theorem pend2_fr : pend2 n k2 (.fr d) ρ (some r) = k2 r (.fr d) (ρ.front n) := nr rfl
theorem pend2_bo (h : i < n) : pend2 n k2 (.bo i π) ρ (some r) = k2 r (.bo i π) (ρ.front n) := if_pos (decide_eq_true h)
theorem wa_nil : WA (aNil ρ) KA = WA (.ok [] ρ) KA := nr rfl
theorem wa_cons : WA (aCons me mr ρ) KA = WE (me ρ) (kA1 mr KA) := nr rfl
theorem wa_im : WE (.ok (.im d) ρ) (kA1 mr KA) = WA (mr ρ) (kA2 (.im d) KA) := nr rfl
theorem wa_va : WE (.ok (.bo i []) ρ) (kA1 mr KA) = WA (mr ρ) (kA2 (.va i) KA) := nr rfl
theorem wa_fr : WE (.ok (.fr d) ρ) (kA1 mr KA) = WA (mr (ρ ++ [.ow false d])) (kA3 ρ.length KA) := nr rfl
theorem wa_bo : WE (.ok (.bo i (n :: π)) ρ) (kA1 mr KA) = WA (mr (ρ ++ [.al i (n :: π)])) (kA3 ρ.length KA) := nr rfl
theorem wa_ex : WE (.ex c w ρ) (kA1 mr KA) = WA (.ex c w ρ) KA := nr rfl
theorem wa_2 {x : Av} : WA (.ok as ρ) (kA2 x KA) = WA (.ok (x :: as) ρ) KA := nr rfl
theorem wa_2x {x : Av} : WA (.ex c w ρ) (kA2 x KA) = WA (.ex c w ρ) KA := nr rfl
theorem wa_3 : WA (.ok as ρ) (kA3 m KA) = WA (if avOk m as = true then .ok (.tp :: as) ρ else .st) KA := nr rfl
theorem wa_3x : WA (.ex c w ρ) (kA3 m KA) = WA (.ex c w (ρ.front m)) KA := nr rfl
/-! ### expressions -/
theorem wm_var : WE (mVar i ρ) K = WE (varR i ρ ρ[i]?) K := nr rfl
theorem wm_mv : WE (mMv i ρ) K = WE (mvR i ρ ρ[i]?) K := nr rfl
theorem wm_c : WE (mC d ρ) K = WE (.ok (.im d) ρ) K := nr rfl
theorem wm_op : WE (mOp f ma mb ρ) K = WE (ma ρ) (kB (fun x ρ1 => pend x mb ρ1 fun x y ρ2 => op2 f ρ2 (datR ρ2 x) (datR ρ2 y)) K) := nr rfl
theorem wm_opS : WE (mOpS f ma mb ρ) K = WE (ma ρ) (kB (fun x ρ1 => pend x mb ρ1 fun x y ρ2 => op2f f y (flatR ρ2 x)) K) := nr rfl
theorem wm_un : WE (mUn h ma ρ) K = WE (ma ρ) (kB (fun x ρ1 => op1 h ρ1 (datR ρ1 x)) K) := nr rfl
theorem wm_unS : WE (mUnS h ma ρ) K = WE (ma ρ) (kB (fun x ρ1 => op1f h (flatR ρ1 x)) K) := nr rfl
theorem wm_tup : WE (mTup mm ρ) K = WA (mm ρ) (kAB (fun l ρ1 => its1 tupR (itms l ρ1)) K) := nr rfl
theorem wm_lst : WE (mLst mm ρ) K = WA (mm ρ) (kAB (fun l ρ1 => its1 lstR (itms l ρ1)) K) := nr rfl
theorem wm_cb : WE (mCB fl mm ρ) K = WA (mm ρ) (kAB (fun l ρ1 => cb1 fl ρ1 (datsR ρ1 l)) K) := nr rfl
theorem wm_cbS : WE (mCBS fl mm ρ) K = WA (mm ρ) (kAB (fun l ρ1 => cbS1 fl (flats l ρ1)) K) := nr rfl
theorem wm_B : WE (mB ma ρ) K = WE (ma ρ) (kB (fun r ρ1 => bR ρ1 r.bl?) K) := nr rfl
theorem wm_tru : WE (mTru ma ρ) K = WE (ma ρ) (kB (fun r ρ1 => tru1 ρ1 (datR ρ1 r)) K) := nr rfl
theorem wm_if : WE (mIf mt ma mb ρ) K = WE (mt ρ) (kB (fun r ρ1 => ifE ma mb ρ1 r.bl?) K) := nr rfl
theorem wm_andT : WE (mAndT ma mb ρ) K = WE (ma ρ) (kB (fun r ρ1 => ifE mb (mC (.bl false)) ρ1 r.bl?) K) := nr rfl
theorem wm_orT : WE (mOrT ma mb ρ) K = WE (ma ρ) (kB (fun r ρ1 => ifE (mC (.bl true)) mb ρ1 r.bl?) K) := nr rfl
theorem wm_notT : WE (mNotT ma ρ) K = WE (ma ρ) (kB (fun r ρ1 => bR ρ1 (r.bl?.map not)) K) := nr rfl
theorem wm_and : WE (mAnd ma mb ρ) K = WE (ma ρ) (kB (fun r ρ1 => ifE mb (mC (.bl false)) ρ1 r.bl?) K) := nr rfl
theorem wm_or : WE (mOr ma mb ρ) K = WE (ma ρ) (kB (fun r ρ1 => ifE (mC (.bl true)) mb ρ1 r.bl?) K) := nr rfl
theorem wm_not : WE (mNot ma ρ) K = WE (ma ρ) (kB (fun r ρ1 => bR ρ1 (r.bl?.map not)) K) := nr rfl
theorem ifE_t : WE (ifE ma mb ρ (some true)) K = WE (ma ρ) K := nr rfl
theorem ifE_f : WE (ifE ma mb ρ (some false)) K = WE (mb ρ) K := nr rfl
theorem wm_int : WE (mInt ma ρ) K = WE (ma ρ) (kB (fun r ρ1 => intR ρ1 r.int?) K) := nr rfl
theorem wm_ch : WE (mChain f g ma mb mc ρ) K = WE (ma ρ) (kB (fun x ρ1 => pend x mb ρ1 fun x y ρ2 => ch2 f g mc y ρ2 (datR ρ2 x) (datR ρ2 y)) K) := nr rfl
theorem wm_sl : WE (mSl me ml mh ρ) K = WE (me ρ) (kB (fun x ρ1 => slP ml x ρ1 fun x l ρ2 => slP mh x ρ2 fun x h ρ3 => slR l h (flatR ρ3 x)) K) := nr rfl
theorem wm_m1 {fm : Str → Py → OV} : WE (mM1 fm ma mb ρ) K = WE (ma ρ) (kB (fun x ρ1 => m1k fm mb ρ1 x) K) := nr rfl
theorem wm_ix : WE (mIx ma mb ρ) K = WE (ma ρ) (kB (fun x ρ1 => pend x mb ρ1 fun x y ρ2 => ix2 ρ2 x (datR ρ2 x) (datR ρ2 y)) K) := nr rfl
theorem wm_fld : WE (mFld nm okc ma ρ) K = WE (ma ρ) (kB (fun x ρ1 => fld2 nm okc ρ1 x (datR ρ1 x)) K) := nr rfl
theorem wm_con : WE (mCon nm cd ma ρ) K = WE (ma ρ) (kB (fun x ρ1 => con2 nm cd ρ1 (datR ρ1 x)) K) := nr rfl
theorem wm_din {fb : Bool → Bool} : WE (mDIn fb my md ρ) K = WE (my ρ) (kB (fun y ρ1 => pend y md ρ1 fun y x ρ2 => din1 fb ρ2 (datR ρ2 y) (datR ρ2 x)) K) := nr rfl
theorem wm_call : WE (mCall dm mm ρ) K = WA (mm ρ) (kAB (fun rs ρ' => callR dm ρ' rs) K) := nr rfl
theorem wm_callD : WE (mCallD dm ds mm ρ) K = WA (mm ρ) (kAB (fun rs ρ' => callR dm ρ' (rs ++ ds.map .im)) K) := nr rfl
theorem wm_callK : WE (mCallK dm n m ix ds mm ρ) K = WA (mm ρ) (kAB (fun rs ρ1 => callK dm n m ix ds ρ1 rs) K) := nr rfl
theorem wm_chk : WE (mChk ck ma ρ) K = WE (ma ρ) (kChk ck K) := nr rfl
theorem wm_chk1 (h : ck ρ r = true) : WE (.ok r ρ) (kChk ck K) = WE (.ok r ρ) K := by
  show K (if ck ρ r = true then .ok r ρ else .st) = K _
  rw [if_pos h]
theorem wx_chk : WE (.ex c w ρ) (kChk ck K) = WE (.ex c w ρ) K := nr rfl
theorem wm_bm {N : String} : WE (mBM N op mo mm ρ) K = WA (aCons (mChk (tyR N) mo) mm ρ) (kAB (opC op) K) := nr rfl
theorem wm_meth : WE (mMeth c nm dm ds mo mm ρ) K = WA (aCons (mChk (isObj c nm) mo) mm ρ) (kAB (fun rs ρ' => callR dm ρ' (rs ++ ds.map .im)) K) := nr rfl
theorem wm_make : WE (mMake c dm ds mm ρ) K = WA (mm ρ) (kAB (fun rs ρ1 => make1 ρ1.length (callR dm (ρ1 ++ [.ow false (.obj c [] [])]) (.bo ρ1.length [] :: (rs ++ ds.map .im)))) K) := nr rfl
theorem wm_make1 {x : ER} : WE (make1 n x) K = WE x (kMk n K) := nr rfl
theorem wmk_ok : WE (.ok (.im .non) ρ) (kMk n K) = WE (make2 n ρ (popR ρ n)) K := nr rfl
theorem wmk_ex : WE (.ex c w ρ) (kMk n K) = WE (.ex c w (ρ.front n)) K := nr rfl
theorem wm_lc : WE (mLc vs MI' mg mt me ρ) K = WI (MI' ρ) (kLc vs mg mt me K) := nr rfl
theorem wlc_ok : WI (.ok its ρ) (kLc vs mg mt me K) = WE (mLc2 vs mg mt me its ρ.length (wipeO vs ρ)) K := nr rfl
theorem wlc_ex : WI (.ex c w ρ) (kLc vs mg mt me K) = WE (.ex c w ρ) K := nr rfl
/-! ### what is walked -/
theorem wm_iAny : WI (iAny me ρ) KI = WE (me ρ) (kI (fun r ρ1 => iAny1 (frz1 ρ1 r)) KI) := nr rfl
theorem wm_iOf : WI (iOf ff mm ρ) KI = WA (mm ρ) (kAI (fun rs ρ1 => iOf1 ff (frzs rs ρ1)) KI) := nr rfl
/-! ### statements -/
theorem wm_seq : WS (mSeq a b ρ) KS = WS (a ρ) (kSq b KS) := nr rfl
theorem wm_next : WS (mNext ρ) KS = WS (.nx ρ) KS := nr rfl
theorem wm_brk : WS (mBreak ρ) KS = WS (.bk ρ) KS := nr rfl
theorem wm_cont : WS (mCont ρ) KS = WS (.ct ρ) KS := nr rfl
theorem wm_drop : WS (mDrop me ρ) KS = WE (me ρ) (kT (fun _ ρ1 => .nx ρ1) KS) := nr rfl
theorem wm_ret : WS (mRet me ρ) KS = WE (me ρ) (kT (fun r ρ1 => .rt r ρ1) KS) := nr rfl
theorem wm_retN : WS (mRetN ρ) KS = WS (.rt (.im .non) ρ) KS := nr rfl
theorem wm_ifS : WS (mIfS mt a b ρ) KS = WE (mt ρ) (kT (fun r ρ1 => ifS a b ρ1 r.bl?) KS) := nr rfl
theorem ifS_t : WS (ifS a b ρ (some true)) KS = WS (a ρ) KS := nr rfl
theorem ifS_f : WS (ifS a b ρ (some false)) KS = WS (b ρ) KS := nr rfl
theorem wm_set : WS (mSet i me ρ) KS = WE (me ρ) (kT (fun r ρ1 => optS (setRv i r ρ1)) KS) := nr rfl
theorem wm_aug : WS (mAug i f me ρ) KS = WE (mOp f (mVar i) me ρ) (kT (fun r ρ1 => optS (setRv i r ρ1)) KS) := nr rfl
theorem wm_asg : WS (mAsg mg me ρ) KS = WE (me ρ) (kT (fun r ρ1 => optS (mg r ρ1)) KS) := nr rfl
theorem optS_some : optS (some ρ) = .nx ρ := nr rfl
theorem optE_some : optE (some ρ) = .ok (.im .non) ρ := nr rfl
theorem wm_putIx : WS (mPutIx me mo mi ρ) KS = WA (aCons me (aCons mo (aCons mi aNil)) ρ) (kAT putA KS) := nr rfl
theorem wm_putFd : WS (mPutFd nm okc me mo ρ) KS = WA (aCons me (aCons mo aNil) ρ) (kAT (putFA nm okc) KS) := nr rfl
theorem wm_augIx : WS (mAugIx f mo mi me ρ) KS = WA (aCons mo (aCons mi aNil) ρ) (kAT (aug1 f me) KS) := nr rfl
theorem wm_augFd : WS (mAugFd f nm okc mo me ρ) KS = WE (mo ρ) (kT (fun x ρ1 => augS (augF1 f me nm okc x ρ1 (datR ρ1 x))) KS) := nr rfl
theorem wm_augS {x : ER} : WS (augS x) KS = WE x (kAug KS) := nr rfl
theorem wau_ok : WE (.ok r ρ) (kAug KS) = WS (.nx ρ) KS := nr rfl
theorem wau_ex : WE (.ex c w ρ) (kAug KS) = WS (.ex c w ρ) KS := nr rfl
theorem wm_for : WS (mFor MI' mg b ρ) KS = WI (MI' ρ) (kFor mg b KS) := by
  show KS (mFor MI' mg b ρ) = KS (forI mg b (MI' ρ))
  congr 1
theorem wfo_ok : WI (.ok its ρ) (kFor mg b KS) = WS (forM mg b its ρ) KS := nr rfl
theorem wfo_ex : WI (.ex c w ρ) (kFor mg b KS) = WS (.ex c w ρ) KS := nr rfl
theorem wm_forL : WS (mForL me mg b ρ) KS = WE (me ρ) (kT (fun r ρ1 => forL2 mg b r ρ1 (datR ρ1 r)) KS) := nr rfl
theorem wm_raise : WS (mRaise c me ρ) KS = WE (me ρ) (kT (fun r ρ1 => raise1 c (frz1 ρ1 r)) KS) := nr rfl
theorem wm_try : WS (mTryR n cs i a su ρ) KS = WS (a ρ) (kTry n cs i su KS) := nr rfl
theorem wtr_nx : WS (.nx ρ) (kTry n cs i su KS) = WS (.nx ρ) KS := nr rfl
theorem wtr_rt : WS (.rt r ρ) (kTry n cs i su KS) = WS (.rt r ρ) KS := nr rfl
theorem wtr_ex (h1 : c < n) (h2 : cs.contains c = true) (h3 : setS ρ i .no = some ρ2) : WS (.ex c w ρ) (kTry n cs i su KS) = WE (su c w ρ2) (kSuit KS) := by
  show KS (if c < n then (if cs.contains c = true then try2 (su c w) (setS ρ i .no) else .ex c w ρ) else .st) = _
  rw [if_pos h1, if_pos h2, h3]
  rfl
theorem wm_suit : WE (.ok r ρ) (kSuit KS) = WS (.rt r ρ) KS := nr rfl
/-! ### places -/
theorem g0 {s : Sl} : (s :: ρ)[0]? = some s := nr rfl
theorem gS {s : Sl} : (s :: ρ)[n + 1]? = ρ[n]? := nr rfl
theorem varR_im : varR i ρ (some (.im io d)) = .ok (.im d) ρ := nr rfl
theorem varR_ow : varR i ρ (some (.ow io d)) = .ok (.bo i []) ρ := nr rfl
theorem varR_al : varR i ρ (some (.al j π)) = .ok (.bo j π) ρ := nr rfl
theorem datR_im : datR ρ (.im d) = some d := nr rfl
theorem datR_fr : datR ρ (.fr d) = some d := nr rfl
theorem datR_b0 : datR ρ (.bo i []) = datP ρ i [] := nr rfl
theorem op2_some : op2 f ρ (some d) (some e) = (f d e).er ρ := nr rfl
theorem op1_some : op1 h ρ (some d) = (h d).er ρ := nr rfl
theorem ov_im : OV.er (.im d) ρ = .ok (.im d) ρ := nr rfl
theorem ov_fr : OV.er (.fr d) ρ = .ok (.fr d.wrap) ρ := nr rfl
end
/-! ### a test that is not known yet -/
section
variable {ρ : Rho} {ma mb : ME} {a b : MS} {K : ER → Prop} {KS : SR → Prop}
theorem wc_ifE {t : Bool} (h1 : t = true → WE (ma ρ) K) (h2 : t = false → WE (mb ρ) K) : WE (ifE ma mb ρ (some t)) K := by
  cases t
  · exact h2 rfl
  · exact h1 rfl
theorem wc_ifS {t : Bool} (h1 : t = true → WS (a ρ) KS) (h2 : t = false → WS (b ρ) KS) : WS (ifS a b ρ (some t)) KS := by
  cases t
  · exact h2 rfl
  · exact h1 rfl
/-- two ways that meet again -/
def kJoin (Q : Rho → Prop) (KS : SR → Prop) : SR → Prop
  | .nx ρ => Q ρ
  | .ct ρ => WS (.ct ρ) KS
  | .bk ρ => WS (.bk ρ) KS
  | .rt r ρ => WS (.rt r ρ) KS
  | .ex c w ρ => WS (.ex c w ρ) KS
  | .st => False
theorem wc_join {Q : Rho → Prop} {s : SR} (h : WS s (kJoin Q KS)) (k : ∀ ρ', Q ρ' → WS (.nx ρ') KS) : WS s KS := by
  cases s with
  | nx ρ' => exact k ρ' h
  | ct ρ' => exact h
  | bk ρ' => exact h
  | rt r ρ' => exact h
  | ex c w ρ' => exact h
  | st => exact h.elim
/-! ### a def's run -/
def kRun (as : List Sl) (K : DR → Prop) : SR → Prop := fun s => K (endR as s)
theorem w_run {m : DM} {as : List Sl} {K : DR → Prop} (h : WS (m.body (as ++ List.replicate (m.n - as.length) .no)) (kRun as K)) : K (m.run as) := h
theorem wr_nx {as : List Sl} {KR : DR → Prop} : WS (.nx ρ) (kRun as KR) = KR (.ok (.im .non) (outsOf as ρ)) := nr rfl
theorem wr_rt {as : List Sl} {r : Rv} {KR : DR → Prop} : WS (.rt r ρ) (kRun as KR) = KR (retR as ρ r) := nr rfl
theorem wr_ex {as : List Sl} {c : Nat} {w : Py} {KR : DR → Prop} : WS (.ex c w ρ) (kRun as KR) = KR (.ex c w (outsOf as ρ)) := nr rfl
/-! ### for -/
def kTurn (Q : Rho → Prop) (KS : SR → Prop) : SR → Prop
  | .nx ρ => Q ρ
  | .ct ρ => Q ρ
  | .bk ρ => WS (.nx ρ) KS
  | .rt r ρ => WS (.rt r ρ) KS
  | .ex c w ρ => WS (.ex c w ρ) KS
  | .st => False
def WO (o : Option Rho) (a : MS) (K : SR → Prop) : Prop := ∃ ρ2, o = some ρ2 ∧ WS (a ρ2) K
theorem wo_some : WO (some ρ) a KS = WS (a ρ) KS := propext ⟨fun ⟨_, h, k⟩ => by cases h; exact k, fun h => ⟨_, rfl, h⟩⟩
/-- a loop by what holds ahead of each turn -/
theorem wc_for {mg : MG} {items : List Py} (P : Nat → Rho → Prop) (h0 : P 0 ρ)
    (hs : ∀ (n : Nat) (d : Py) (ρ' : Rho), items[n]? = some d → P n ρ' → WO (mg (.im d.unfz) ρ') a (kTurn (P (n + 1)) KS))
    (he : ∀ ρ', P items.length ρ' → WS (.nx ρ') KS) : WS (forM mg a items ρ) KS := by
  have go : ∀ (k : List Py) (n : Nat) (ρ' : Rho), items.drop n = k → n ≤ items.length → P n ρ' → WS (forM mg a k ρ') KS := by
    intro k
    induction k with
    | nil =>
      intro n ρ' hk hn hp
      have : items.length ≤ n := List.drop_eq_nil_iff.mp hk
      have e : n = items.length := by omega
      subst e
      exact he ρ' hp
    | cons d k ih =>
      intro n ρ' hk hn hp
      have hd : items[n]? = some d := by
        have := congrArg (fun z => z[0]?) hk
        simpa using this
      obtain ⟨ρ2, e2, w⟩ := hs n d ρ' hd hp
      have hl : n < items.length := (List.getElem?_eq_some_iff.mp hd).1
      have hk2 : items.drop (n + 1) = k := by
        have := congrArg (fun z => z.drop 1) hk
        simpa using this
      show KS (match mg (.im d.unfz) ρ' with | none => SR.st | some ρ1 => match a ρ1 with | .nx ρ2 => forM mg a k ρ2 | .ct ρ2 => forM mg a k ρ2 | .bk ρ2 => .nx ρ2 | x => x)
      rw [e2]
      show KS (match a ρ2 with | .nx ρ2 => forM mg a k ρ2 | .ct ρ2 => forM mg a k ρ2 | .bk ρ2 => .nx ρ2 | x => x)
      unfold WS at w
      cases e : a ρ2 with
      | nx ρ3 => rw [e] at w; exact ih (n + 1) ρ3 hk2 hl w
      | ct ρ3 => rw [e] at w; exact ih (n + 1) ρ3 hk2 hl w
      | bk ρ3 => rw [e] at w; exact w
      | rt r ρ3 => rw [e] at w; exact w
      | ex c w' ρ3 => rw [e] at w; exact w
      | st => rw [e] at w; exact w.elim
  exact go items 0 ρ (by simp) (Nat.zero_le _) h0
end
end Mr
/-! Dp: all of it; rules whose reading names K by itself -/
namespace Mr
open PySem PySem.Spec PyProof.Rows L2
section
variable {X : Cx} {K : PySem.W.Frag}
theorem ixAA (h : X.K = K) (hu : X.A.units + 64 < cLine) : IxR X (rIxA K) := h ▸ ix_all (by omega)
theorem setAA (hu : X.A.units + 64 < cLine) : PSet X rSetA := set_all (by omega)
theorem sumA (h : X.K = K) (hc : X.calm = true) : CallR X (.builtin "sum") (rSum K) := h ▸ cr_sum hc
theorem sortA (h : X.K = K) (hc : X.calm = true) : CallR X (.builtin "sorted") (rSortA K) := h ▸ cr_sortA hc
theorem pi_seqA {tg e : Expr} {te : TE} (h : X.K = K) (he : PE X e te) : PI X tg e (iSeq K te) := h ▸ pi_seq he
end
theorem st_yes {T : Tb} {W : Wx} {n : Nat} : ST T W n tYes (mC (.bl true)) := fun F H σ τ ρ Φ Q hn I q => by
  obtain ⟨b, e, q⟩ := q
  cases e
  exact q F H (Same.refl F) I
end Mr
/-! Dp: what is new is put to what stays, its data without marks -/
namespace Mr
open PySem L2
def fz1 (r : Rv) (ρ : Rho) : ER := match r with
  | .fr d => .ok (.im d.plain) ρ
  | r => .ok r ρ
def mFz (m : ME) : ME := fun ρ => (m ρ).bind fz1
section
variable {T : Tb} {W : Wx} {n : Nat} {F F1 F2 F' H H1 H2 H' : Hp} {Φ : Frm} {σ τ : List (Option V)} {ρ ρ1 ρ2 : Rho} {Q : VK}
theorem se_fz {te : TE} {m : ME} (h : SE T W n te m) : SE T W n te (mFz m) := fun F H σ τ ρ Φ Q hn I q => by
  refine se_then h hn I q fun v r ρ1 F1 H1 s1 I1 r1 q1 => ?_
  cases r with
  | im d => exact q1 v F1 H1 (Same.refl F1) I1 r1
  | bo i π => exact q1 v F1 H1 (Same.refl F1) I1 r1
  | fr d =>
    obtain ⟨F2, s2, I2, rp⟩ := En.stayX (X := []) I1
    exact q1 v F2 H1 s2 I2 rp.plain
end
end Mr
/-! Dp: text.index, range with a step, len of a dict, isinstance of an error and a class of its own kind -/
namespace Mr
open PySem PySem.Spec PyProof.Rows L2
/-! ### s.index(y), there -/
def fIndex (a : Str) : Py → OV
  | .str b => (match Txt.index0 a b with
    | some k => .im (.int (k : Nat))
    | none => .st)
  | _ => .st
section
variable {T : Tb} {W : Wx} {n : Nat} {F F1 F2 F' H H1 H2 H' : Hp} {Φ : Frm} {σ τ : List (Option V)} {ρ ρ1 ρ2 : Rho} {Q : VK}
theorem se_index {W0 : WX} {to te : TE} {ma mb : ME} (ha : SE T W n to ma) (hb : SE T W n te mb) : SE T W n (tBMS T.K "str" (rIndexX W0) to (tCons te tNil)) (mM1 fIndex ma mb) := fun F H σ τ ρ Φ Q hn I q => by
  refine se_then ha hn I q fun v x ρ1 F1 H1 s1 I1 r1 q1 => ?_
  cases x with
  | bo i π => exact q1.elim
  | fr d => exact q1.elim
  | im d =>
    cases d <;> try exact q1.elim
    rename_i a
    cases r1
    refine ⟨rfl, ?_⟩
    refine se_then hb hn I1 q1 fun u y ρ2 F2 H2 s2 I2 r2 q2 => ?_
    cases hy : datR ρ2 y with
    | none => rw [hy] at q2; exact q2.elim
    | some e =>
      rw [hy] at q2
      have re := r2.readR (X := []) (by rw [List.append_nil]; exact I2) hy
      have q2 : EPost T W F2 σ τ Φ Q ((fIndex a e).er ρ2) := q2
      cases e with
      | str b =>
        cases re
        have q2 : EPost T W F2 σ τ Φ Q ((match Txt.index0 a b with | some k => OV.im (.int (k : Nat)) | none => .st).er ρ2) := q2
        cases hk : Txt.index0 a b with
        | none => rw [hk] at q2; exact q2.elim
        | some k =>
          rw [hk] at q2
          refine ⟨a, b, rfl, rfl, fun k' e' => ?_, fun e' => by rw [hk] at e'; cases e'⟩
          rw [hk] at e'
          cases e'
          exact q2 (.int (k : Nat)) F2 H2 (Same.refl F2) I2.dropAll (.int _)
      | _ => exact q2.elim
end
/-! ### range(i, j, c) -/
def rangeC (lo c : Int) : Nat → List Py
  | 0 => []
  | n + 1 => .int lo :: rangeC (lo + c) c n
theorem rangeC_len : ∀ (lo c : Int) (n : Nat), (rangeC lo c n).length = n
  | _, _, 0 => rfl
  | lo, c, n + 1 => by
    show (rangeC (lo + c) c n).length + 1 = n + 1
    rw [rangeC_len (lo + c) c n]
theorem rangeC_get : ∀ (lo c : Int) (n i : Nat) (d : Py), (rangeC lo c n)[i]? = some d → i < n ∧ d = .int (lo + (i : Nat) * c)
  | _, _, 0, _, _, h => by cases h
  | lo, c, n + 1, 0, _, h => ⟨by omega, by rw [← Option.some.inj h]; simp⟩
  | lo, c, n + 1, i + 1, d, h => by
    obtain ⟨h1, h2⟩ := rangeC_get (lo + c) c n i d h
    refine ⟨by omega, ?_⟩
    rw [h2]
    congr 1
    rw [show ((i + 1 : Nat) : Int) = (i : Int) + 1 by omega, Int.add_mul]
    omega
def fRange3 : List Py → Option (List Py)
  | [.int i, .int j, .int c] => if c ≠ 0 ∧ c.natAbs < 1073741824 ∧ Builtin.Range.small i j c = true then some (rangeC i c (Builtin.Range.rangeSize i j c).toNat) else none
  | _ => none
section
variable {T : Tb} {W : Wx} {n : Nat} {F F1 F2 F' H H1 H2 H' : Hp} {Φ : Frm} {σ τ : List (Option V)} {ρ ρ1 ρ2 : Rho} {Q : VK}
theorem it_rangeC {lo c : Int} {n : Nat} : ItOk T (Itc lo c n) F (rangeC lo c n) := fun i F1 H1 e s =>
  ⟨fun d h => by
    obtain ⟨hi, rfl⟩ := rangeC_get lo c n i d h
    refine ⟨hi, fun x H2 y S ρ Φ X I => ?_⟩
    obtain ⟨eH, ex⟩ := y
    subst eH ex
    exact ⟨F1, Same.refl F1, I, .int _⟩, fun hl => by
    rw [rangeC_len] at hl
    exact Nat.le_of_eq hl⟩
def rRg3 : List V → Hp → (It → Hp → Prop) → Prop := fun vs H1 R => ∃ (i j c : Int) (n : Nat), vs = [.int i, .int j, .int c] ∧ RgC i j c n ∧ R (Itc i c n) H1
theorem ri_range3 : RIok T rRg3 fRange3 := fun F H vs ds items R fh r hf k => by
  match ds, r, hf with
  | [d, e, g], .cons r (.cons r2 (.cons r3 .nil)), hf =>
    cases d <;> try (cases hf; done)
    cases e <;> try (cases hf; done)
    cases g <;> try (cases hf; done)
    rename_i i j c
    cases r
    cases r2
    cases r3
    have hf : (if c ≠ 0 ∧ c.natAbs < 1073741824 ∧ Builtin.Range.small i j c = true then some (rangeC i c (Builtin.Range.rangeSize i j c).toNat) else none) = some items := hf
    by_cases h : c ≠ 0 ∧ c.natAbs < 1073741824 ∧ Builtin.Range.small i j c = true
    · rw [if_pos h] at hf
      cases hf
      refine ⟨i, j, c, (Builtin.Range.rangeSize i j c).toNat, rfl, ⟨h.1, h.2.1, h.2.2, ?_⟩, k _ it_rangeC⟩
      have p : 0 ≤ Builtin.Range.rangeSize i j c := by
        unfold Builtin.Range.rangeSize
        split
        · rename_i hc
          split
          · have : 0 ≤ (j - i - 1) / c := Int.ediv_nonneg (by omega) (by omega)
            omega
          · omega
        · rename_i hc
          split
          · have : 0 ≤ (i - j - 1) / (-c) := Int.ediv_nonneg (by omega) (by omega)
            omega
          · omega
      exact (Int.toNat_of_nonneg p).symm
    · rw [if_neg h] at hf; cases hf
  | [], _, hf => cases hf
  | [d], _, hf => cases d <;> cases hf
  | [d, e], _, hf => cases d <;> cases e <;> cases hf
  | d :: e :: g :: _ :: _, _, hf => cases d <;> cases e <;> cases g <;> cases hf
theorem si_range3 {ta : TA} {m : MA} (h : SA T W n ta m) : SI T W n (iRng3 ta) (iOf fRange3 m) := by
  have q := si_of (r := rRg3) (W := W) (n := n) ri_range3 h
  exact q
end
/-! ### len of a dict, too -/
def rLenB (K : PySem.W.Frag) : List V → Hp → VK → Prop := fun xs H Q => (∃ x n, xs = [x] ∧ LenV K x H n ∧ Q (.int n) H) ∨ ∃ (a : Addr) (kvs : List (Key × V)), xs = [.ref a] ∧ Rd H a (.dK kvs) ∧ Q (.int kvs.length) H
theorem lenB {X : Cx} {K : PySem.W.Frag} (h : X.K = K) : CallR X (.builtin "len") (rLenB K) := by
  intro pins s σ H xs us Q I r q
  rcases q with q | ⟨a, kvs, rfl, hd, q⟩
  · exact lenA h pins s σ H xs us Q I r q
  · cases r with
    | cons r rr =>
      cases rr
      cases r
      exact d_len I hd fun t s' I' => ⟨.int kvs.length, H, I', ⟨t, rfl⟩, q⟩
def pyLenD : Py → OV
  | .dic _ ks _ => .im (.int ks.length)
  | d => pyLen d
section
variable {T : Tb}
theorem rc_lenB : RCrd T (rLenB T.K) (one pyLenD) := fun F H xs ds Q r => by
  have base : ∀ d, ds = [d] → pyLenD d = pyLen d → (one pyLenD ds).noTup ∧ (Give T F H Q (one pyLenD ds) → rLenB T.K xs H Q) := fun d e h => by
    subst e
    have q := rc_len (T := T) F H xs [d] Q r
    show (pyLenD d).noTup ∧ (Give T F H Q (pyLenD d) → _)
    rw [h]
    exact ⟨q.1, fun z => .inl (q.2 z)⟩
  match ds, r with
  | [], _ => exact ⟨trivial, fun q => q.elim⟩
  | _ :: _ :: _, _ => exact ⟨trivial, fun q => q.elim⟩
  | [d], r =>
    cases d with
    | dic lk ks vs =>
      refine ⟨trivial, fun q => ?_⟩
      cases r with
      | cons h1 rr =>
        cases rr
        cases h1 with
        | dic hd e rl =>
          rename_i a kvs
          refine .inr ⟨a, kvs, rfl, hd, ?_⟩
          have q : Give T F H Q (.im (.int (ks.length : Nat))) := q
          have el : kvs.length = ks.length := by rw [← e.1, List.length_map]
          rw [el]
          exact q.int
    | _ => exact base _ rfl rfl
end
/-! ### isinstance(e, a class of the built-in ones) in a suite -/
section
variable {T : Tb} {W : Wx} {n : Nat} {L : Hp} {s : L2.St} {i : Nat} {a d C : Addr} {v : V} {Cs : List Addr}
theorem se_isXb {D : String} {b : Bool} (hC : C ∈ Cs) (hd : L d = some (.xd [("what", v)])) (hs : s[i]? = some (some (.ref a))) (hl : s.length = n) (hk : PySem.W.kitOne T.K (.ref C) (.type D) = some b) :
    SE (suT T L s) W n (tCB (rIsX T.K Cs a (.ref C) (some d)) (tCons (tVar i) (tCons (tC (.ty D)) tNil))) (mC (.bl b)) := fun F H σ τ ρ Φ Q hn I q => by
  have es := I.suEq hn hl
  subst es
  refine ⟨.ref a, hs, C, d, .ty D, .type D, b, _, hC, rfl, rfl, I.fh.plain (I.lo _ _ hd) (fun z => z), rfl, .ty D, hk, ?_⟩
  exact q (.bl b) F H (Same.refl F) I (.bl b)
end
end Mr
/-! Dp: xs.extend(ys), ys a list or a tuple -/
namespace Mr
open PySem PyProof.Rows L2
open PySem.AutoSeq1 in
theorem ext_tup (l : Addr) (items : Array Value) (n : Nat) (b : Addr) (items2 : Array Value) (n2 : Nat) (d2 : Option Addr) (sl2 : Array (Option Value)) (hs0 : ¬(!items.isEmpty && Builtin.List.listTooLong (items.size + items2.size)) = true) (hs1 : items.size ≤ sizeLine) (hs2 : items.size + items2.size ≤ sizeLine + 1) :
    Meets (Builtin.«list.extend» ⟨[.ref l, .ref b], []⟩) (fun _ R s => s.heap.get? l = some { cls := .type "list", dict := none, data := .seq items n, slots := #[] } ∧ s.heap.get? b = some { cls := .type "tuple", dict := d2, data := .seq items2 n2, slots := sl2 } ∧ R (.ok (.ret Value.none)) { s with heap := s.heap.update l (Obj.mapSeq fun x => x ++ items2), toks := s.toks }) :=
  .of_wp fun prog w A R s h => by
    obtain ⟨hp, g, d, tk, os⟩ := s
    obtain ⟨hl, hb, h⟩ := h
    have f2 := AutoSeq1.sub_tuple_tuple
    have f3 := AutoSeq1.sub_list_list
    have f4 := AutoSeq1.sub_tuple_list
    have f5 := AutoSeq1.sub_list_tuple
    have hz' : (items ++ items2).size ≤ sizeLine + 1 := by rw [Array.size_append]; exact hs2
    wp_walk using (wpAny_updateSeq hl rfl (hz := hs1) (_hz' := hz')), wpAny_loadPart' hl, wpAny_loadPart' hb
    exact ⟨_, rfl, h⟩
def rExtA (K : PySem.W.Frag) : V → List V → Hp → VK → Prop := fun x vs H Q => ∃ l b xs zs, x = .ref l ∧ vs = [.ref b] ∧ H l = some (.lst xs) ∧ (H b = some (.lst zs) ∨ SqT K H b zs) ∧ xs.length + zs.length ≤ sizeLine ∧ Q .non (upd H l (.lst (xs ++ zs)))
theorem mt_extA0 {X : Cx} : MtM X "list.extend" (rExtA X.K) := by
  intro pins s σ H x vs v us Q I rx rv h
  obtain ⟨l, b, xs, zs, rfl, rfl, hH, hB, hz, q⟩ := h
  rcases hB with hB | hB
  · exact mt_extend pins s σ H _ _ v us Q I rx rv ⟨l, b, xs, zs, rfl, rfl, hH, hB, hz, q⟩
  cases rx
  obtain ⟨u, rfl, ru⟩ := rv.one
  cases ru
  obtain ⟨z, its, n, r, hl, e⟩ := I.lstM hH
  obtain ⟨its2, r2, ⟨⟨c2, d2, da2, sl2⟩, e2, hc2, n2, hd2⟩, hl2⟩ := I.tuple hB
  have hc2 : c2 = .type "tuple" := hc2
  have hd2 : da2 = .seq its2.toArray n2 := hd2
  subst hc2 hd2
  have hl3 : its2.length = zs.length := r2.length.symm
  have hsz : its.toArray.size + its2.toArray.size ≤ sizeLine := by rw [List.size_toArray, List.size_toArray]; omega
  have hlong : ¬ (!its.toArray.isEmpty && Builtin.List.listTooLong (its.toArray.size + its2.toArray.size)) = true := by
    rw [notLongL hsz, Bool.and_false]
    exact Bool.false_ne_true
  refine call_meets F.slot_list_extend ⟨_, e, rfl⟩ F.entry_list_extend (F.args_list_extend_2 _ _)
    (ext_tup l its.toArray n b its2.toArray n2 d2 sl2 hlong (by rw [List.size_toArray]; omega) (by omega)) ⟨e, e2, ?_⟩
  refine ⟨.non, _, I.lset (its' := its ++ its2) hH e (by simp) (r.append r2) ?_, rfl, q⟩
  rw [List.length_append]
  omega
theorem mt_extA {X : Cx} {K : PySem.W.Frag} (h : X.K = K) : MtM X "list.extend" (rExtA K) := h ▸ mt_extA0
def ext1A (x : Rv) : Option (Py × Rho) → ER
  | some (.lst m, ρ) => extO ρ m (rcv ρ x)
  | some (.tup m, ρ) => extO ρ m (rcv ρ x)
  | _ => .st
def opExtA : MOp := fun x l ρ => match l with
  | [y] => ext1A x (flatR ρ y)
  | _ => .st
section
variable {T : Tb} {W : Wx} {n : Nat} {F F1 F2 F' H H1 H2 H' : Hp} {Φ : Frm} {σ τ : List (Option V)} {ρ ρ1 ρ2 : Rho} {Q : VK}
theorem bm_extA : BMok T (rExtA T.K) opExtA := fun {W F H σ τ ρ Φ Q x xs y l} I rx rl q => by
  cases rl with
  | nil => exact q.elim
  | cons ry rl =>
    cases rl with
    | cons _ _ => exact q.elim
    | nil =>
      rename_i v r
      have q : EPost T W F σ τ Φ Q (ext1A y (flatR ρ r)) := q
      cases ef : flatR ρ r with
      | none => rw [ef] at q; exact q.elim
      | some z =>
        obtain ⟨dm, ρ1⟩ := z
        rw [ef] at q
        have I0 : En T F (σ ++ τ) ρ Φ (r.rts v ++ y.rts x) H := I.permX (by
          show (y.rts x ++ (r.rts v ++ [])).Perm _
          rw [List.append_nil]; exact List.perm_append_comm)
        obtain ⟨F', s1, I1, pk⟩ := flat_then I0 ry ef
        have rx' : RR T F' H (σ ++ τ) x y := rx.mono s1 fun a o e => ⟨o, e, rfl⟩
        have main : ∀ (m : List Py) (b : Addr) (zs : List V), v = .ref b → (H b = some (.lst zs) ∨ SqT T.K H b zs) → RepL T F' zs m → EPost T W F σ τ Φ Q (extO ρ1 m (rcv ρ1 y)) → rExtA T.K x [v] H Q := by
          intro m b zs eb hb rz q
          cases ec : rcv ρ1 y with
          | none => rw [ec] at q; exact q.elim
          | some c =>
            rw [ec] at q
            obtain ⟨u, p, ob, h, _⟩ := rcv_ok I1 rx' ec
            have q : EPost T W F σ τ Φ Q (ext2 ρ1 c m c.d) := q
            have sh := h.sh
            cases ed : c.d with
            | lst l =>
              rw [ed] at q sh
              cases sh with
              | lst =>
                rename_i xs
                have hl : xs.length = l.length := by have := h.ln; rw [ed] at this; exact this
                have q : EPost T W F σ τ Φ Q (if l.length + m.length ≤ sizeLine then .ok (.im .non) (c.wr ρ1 (.lst (l ++ m.map wrap1)) fun j => decide (j < l.length)) else .st) := q
                by_cases hz : l.length + m.length ≤ sizeLine
                · rw [if_pos hz] at q
                  have hzl := rz.length
                  have I2 : En T F' (σ ++ τ) (c.wr ρ1 (.lst (l ++ m.map wrap1)) fun j => decide (j < l.length)) Φ ([] ++ y.rts x) (upd H p (.lst (xs ++ zs))) := En.write (Z := []) (R := []) I1 h.sl h.va h.ge h.mu h.at' h.hp .lst rfl (fun j hj => by
                    have hj : j < l.length := of_decide_eq_true hj
                    exact List.getElem?_append_left (by omega)) fun B C tB tC => by
                    cases tC
                    rw [ed] at tB
                    refine ⟨B ++ [], [], tB.append (trL_wrap rz), .nil, ?_⟩
                    rw [List.append_nil]
                    exact Sub.refl _
                  exact ⟨p, b, xs, zs, h.eq, by rw [eb], h.hp, hb, by omega, q .non F' _ s1 I2.dropAll .non⟩
                · rw [if_neg hz] at q; exact q.elim
            | _ => rw [ed] at q; exact q.elim
        cases dm with
        | lst m =>
          obtain ⟨b, zs, eb, hb, rz⟩ := pk.lst I1.fh
          exact main m b zs eb (.inl hb) rz q
        | tup m =>
          obtain ⟨b, zs, eb, hb, rz, _⟩ := pk.tup I1.fh
          exact main m b zs eb (.inr hb) rz q
        | _ => exact q.elim
end
theorem opExtA_1 {x r : Rv} {ρ : Rho} : opExtA x [r] ρ = ext1A x (flatR ρ r) := nr rfl
theorem extA_L {x : Rv} {m : List Py} {ρ : Rho} : ext1A x (some (.lst m, ρ)) = ext1 x (some (.lst m, ρ)) := nr rfl
theorem extA_T {x : Rv} {m : List Py} {ρ : Rho} : ext1A x (some (.tup m, ρ)) = ext1 x (some (.lst m, ρ)) := nr rfl
end Mr
/-! Dp: rows for running a mirror whose slots bear no aliases -/
namespace Mr
open PySem L2
/-! ### slots without aliases -/
def Sl.nal : Sl → Bool
  | .al _ _ => false
  | _ => true
def nal (ρ : Rho) : Bool := ρ.all Sl.nal
/-- a slot of which nothing is known, and that nobody keeps -/
def fS : Option (Bool × Py) → Sl
  | none => .no
  | some (true, d) => .ow false d
  | some (false, d) => .im false d
section
variable {ρ ρ1 ρ2 : Rho} {f g : Py → Py → OV} {h : Py → OV} {fl : List Py → OV} {ma mb mc mt me mo ml mh mi my md mx : ME} {mm mr : MA} {a b : MS} {i j n m : Nat} {r s : Rv} {d e : Py} {io : Bool} {K : ER → Prop} {KA : AR → Prop} {KS : SR → Prop} {KI : IR → Prop} {rs : List Rv} {as : List Av} {c : Nat} {w : Py} {π : List Nat} {o : Option (Bool × Py)} {ds : List Py}
theorem nal_nil : nal [] = true := nr rfl
theorem nal_no : nal (.no :: ρ) = nal ρ := nr rfl
theorem nal_im : nal (.im io d :: ρ) = nal ρ := nr rfl
theorem nal_ow : nal (.ow io d :: ρ) = nal ρ := nr rfl
theorem nal_fS : nal (fS o :: ρ) = nal ρ := by
  match o with
  | none => rfl
  | some (true, d) => rfl
  | some (false, d) => rfl
theorem nal_app {ρ' : Rho} (h1 : nal ρ = true) (h2 : nal ρ' = true) : nal (ρ ++ ρ') = true := by
  unfold nal at *; rw [List.all_append, h1, h2]; rfl
theorem nal_id {f : Sl → Sl} (hf : ∀ s, s.nal = true → f s = s) (h : nal ρ = true) : ρ.map f = ρ := by
  induction ρ with
  | nil => rfl
  | cons s ρ ih =>
    have q := Bool.and_eq_true_iff.mp (show (s.nal && nal ρ) = true from h)
    rw [List.map_cons, hf s q.1, ih q.2]
theorem nal_kill (h : nal ρ = true) : ρ.kill i = ρ := nal_id (fun s hs => by cases s <;> first | rfl | cases hs) h
theorem nal_cutC {l : List (Nat × List Nat)} {ρ' : Rho} (h : nal ρ = true) : ρ.map (Sl.cutC ρ' l) = ρ := nal_id (fun s hs => by cases s <;> first | rfl | cases hs) h
theorem nal_cutW {keep : Nat → Bool} {ρ' : Rho} (h : nal ρ = true) : ρ.map (Sl.cutW ρ' i π keep) = ρ := nal_id (fun s hs => by cases s <;> first | rfl | cases hs) h
theorem nal_thaw {t : Py} (h : nal ρ = true) : ρ.map (Sl.thaw i t) = ρ := nal_id (fun s hs => by cases s <;> first | rfl | cases hs) h
theorem nal_thawP {t : Py} (h : nal ρ = true) : ρ.map (Sl.thawP i π t) = ρ := nal_id (fun s hs => by cases s <;> first | rfl | cases hs) h
theorem nal_take (h : nal ρ = true) : nal (ρ.take n) = true := by
  unfold nal at *
  rw [List.all_eq_true] at *
  exact fun x hx => h x (List.mem_of_mem_take hx)
theorem nal_front (h : nal ρ = true) : ρ.front n = ρ.take n := nal_id (fun s hs => by cases s <;> first | rfl | cases hs) (nal_take h)
theorem nal_set {s : Sl} (h : nal ρ = true) (hs : s.nal = true) : nal (ρ.set i s) = true := by
  induction ρ generalizing i with
  | nil => rfl
  | cons s' ρ ih =>
    have q := Bool.and_eq_true_iff.mp (show (s'.nal && nal ρ) = true from h)
    cases i with
    | zero => exact Bool.and_eq_true_iff.mpr ⟨hs, q.2⟩
    | succ i => exact Bool.and_eq_true_iff.mpr ⟨q.1, ih q.2⟩
/-! ### lists of slots -/
theorem s0 {s t : Sl} : List.set (s :: ρ) 0 t = t :: ρ := nr rfl
theorem sS {s t : Sl} {n : Nat} : List.set (s :: ρ) (n + 1) t = s :: List.set ρ n t := nr rfl
theorem t0 : List.take 0 ρ = [] := nr rfl
theorem tS {s : Sl} {n : Nat} : List.take (n + 1) (s :: ρ) = s :: List.take n ρ := nr rfl
theorem frontK_0 : Rho.frontK ρ 0 = ρ := nr rfl
theorem frontK_S : Rho.frontK ρ (n + 1) = ρ.front (ρ.length - (n + 1)) := if_neg (by omega)
def frt (ρ : Rho) (n : Nat) : Bool → Rho
  | true => ρ.take n
  | false => (ρ.take n).map (Sl.cutN n)
theorem ev_front : ρ.front n = frt ρ n (nal ρ) := by
  cases h : nal ρ
  · rfl
  · exact nal_front h
theorem frt_t : frt ρ n true = ρ.take n := nr rfl
theorem nTp_nil : nTp [] = 0 := nr rfl
theorem nTp_im : nTp (.im d :: as) = nTp as := nr rfl
theorem nTp_va : nTp (.va i :: as) = nTp as := nr rfl
theorem nTp_tp : nTp (.tp :: as) = nTp as + 1 := nr rfl
theorem rvs_nil : rvs ρ m n [] = some [] := nr rfl
theorem rvs_im : rvs ρ m n (.im d :: as) = consO (some (.im d)) (rvs ρ m n as) := nr rfl
theorem rvs_va : rvs ρ m n (.va i :: as) = consO (some (.bo i [])) (rvs ρ m n as) := nr rfl
theorem rvs_tp : rvs ρ m n (.tp :: as) = consO (rvT m ρ[n]?) (rvs ρ m (n + 1) as) := nr rfl
theorem rvT_im : rvT m (some (.im io d)) = some (.im d) := nr rfl
theorem rvT_ow : rvT m (some (.ow io d)) = some (.fr d) := nr rfl
theorem consO_ss {l : List Rv} : consO (some r) (some l) = some (r :: l) := nr rfl
theorem avOk_nil : avOk m [] = true := nr rfl
theorem avOk_im : avOk m (.im d :: as) = avOk m as := nr rfl
theorem avOk_tp : avOk m (.tp :: as) = avOk m as := nr rfl
theorem avOk_va : avOk m (.va i :: as) = (decide (i < m) && avOk m as) := nr rfl
def pop2' (n : Nat) : Option Sl → Option Rv
  | some (.im _ d) => some (.im d)
  | some (.ow _ d) => some (.fr d)
  | some (.al i π) => if i < n then some (.bo i π) else none
  | _ => none
theorem ev_pop : popR ρ n = pop2' n ρ[n]? := by
  unfold popR pop2'; cases ρ[n]? with
  | none => rfl
  | some s => cases s <;> rfl
theorem pop_im : pop2' n (some (.im io d)) = some (.im d) := nr rfl
theorem pop_ow : pop2' n (some (.ow io d)) = some (.fr d) := nr rfl
/-! ### data of a slot -/
def datS (π : List Nat) : Option Sl → Option Py
  | some (.ow _ t) => t.getP π
  | some (.im _ t) => if π = [] then some t else none
  | _ => none
theorem ev_datP : datP ρ i π = datS π ρ[i]? := by
  unfold datP datS; cases ρ[i]? with
  | none => rfl
  | some s => cases s <;> rfl
theorem datS_ow : datS [] (some (.ow io d)) = some d := nr rfl
theorem datS_im : datS [] (some (.im io d)) = some d := nr rfl
theorem dats_nil : datsR ρ [] = some [] := nr rfl
def dats2 : Option Py → Option (List Py) → Option (List Py)
  | some d, some ds => some (d :: ds)
  | _, _ => none
theorem dats_cons : datsR ρ (r :: rs) = dats2 (datR ρ r) (datsR ρ rs) := by
  show (match datR ρ r, datsR ρ rs with | some d, some ds => some (d :: ds) | _, _ => none) = _
  cases datR ρ r <;> cases datsR ρ rs <;> rfl
theorem dats2_some {ds : List Py} : dats2 (some d) (some ds) = some (d :: ds) := nr rfl
theorem cb1_some {ds : List Py} : cb1 fl ρ (some ds) = (fl ds).er ρ := nr rfl
theorem cbS1_some {ds : List Py} : cbS1 fl (some (ds, ρ)) = (fl ds).er ρ := nr rfl
theorem one_1 : one h [d] = h d := nr rfl
theorem two_2 : two f [d, e] = f d e := nr rfl
/-! ### put to what stays -/
def stay3 (ρ : Rho) (i : Nat) : Option Sl → Rho
  | some (.ow io t) => ρ.set i (.im io t)
  | _ => ρ
def stay4 (ρ : Rho) (i : Nat) : Bool → Rho
  | true => stay3 ρ i ρ[i]?
  | false => ρ.stay i
theorem stay4_t : stay4 ρ i true = stay3 ρ i ρ[i]? := nr rfl
theorem ev_stayA : ρ.stayA i [] = stay4 ρ i (nal ρ) := by
  cases h : nal ρ
  · rfl
  show ρ.stay i = stay3 ρ i ρ[i]?
  unfold Rho.stay stay3
  cases e : ρ[i]? with
  | none => rfl
  | some s => cases s <;> first | rfl | (show (ρ.map _).set i _ = _; rw [nal_thaw h])
theorem stay3_ow : stay3 ρ i (some (.ow io d)) = ρ.set i (.im io d) := nr rfl
theorem stay3_im : stay3 ρ i (some (.im io d)) = ρ := nr rfl
theorem flatR_im : flatR ρ (.im d) = some (d, ρ) := nr rfl
theorem flatR_fr : flatR ρ (.fr d) = some (d, ρ) := nr rfl
def flat3 (ρ : Rho) (i : Nat) (d : Py) : Bool → Option (Py × Rho)
  | true => some (d, ρ)
  | false => some (d, ρ.stayA i [])
def flat2 (ρ : Rho) (i : Nat) : Option Py → Option (Py × Rho)
  | some d => flat3 ρ i d d.flatOk
  | none => none
theorem flatR_bo : flatR ρ (.bo i []) = flat2 ρ i (datP ρ i []) := by
  show flatB ρ i [] (datP ρ i []) = _
  unfold flatB flat2
  cases datP ρ i [] with
  | none => rfl
  | some d =>
    show (if d.flatOk = true then _ else _) = flat3 ρ i d d.flatOk
    cases d.flatOk <;> rfl
theorem flat2_some : flat2 ρ i (some d) = flat3 ρ i d d.flatOk := nr rfl
theorem flat3_t : flat3 ρ i d true = some (d, ρ) := nr rfl
theorem flat3_f : flat3 ρ i d false = some (d, ρ.stayA i []) := nr rfl
theorem flats_nil : flats [] ρ = some ([], ρ) := nr rfl
theorem flats_cons : flats (r :: rs) ρ = flats1 (flats rs) (flatR ρ r) := nr rfl
theorem flats1_some {F : Rho → Option (List Py × Rho)} : flats1 F (some (d, ρ)) = itms2 d (F ρ) := nr rfl
theorem itms2_some {ds : List Py} : itms2 d (some (ds, ρ)) = some (d :: ds, ρ) := nr rfl
theorem op2f_some : op2f f s (some (d, ρ)) = op2s f d (flatR ρ s) := nr rfl
theorem op2s_some : op2s f d (some (e, ρ)) = (f d e).er ρ := nr rfl
theorem op1f_some : op1f h (some (d, ρ)) = (h d).er ρ := nr rfl
theorem slR_some {l k : Option Int} : slR l k (some (d, ρ)) = (pySl d l k).er ρ := nr rfl
theorem frz1_im : frz1 ρ (.im d) = some (d, ρ) := nr rfl
theorem frz1_fr : frz1 ρ (.fr d) = some (d, ρ) := nr rfl
def frz3 (ρ : Rho) (i : Nat) (d : Py) : Bool → Option (Py × Rho)
  | true => some (d, ρ)
  | false => some (d.plain, ρ.stayA i [])
def frz2 (ρ : Rho) (i : Nat) : Option Py → Option (Py × Rho)
  | some d => frz3 ρ i d d.imm
  | none => none
theorem frz1_bo : frz1 ρ (.bo i []) = frz2 ρ i (datP ρ i []) := by
  show frzB ρ i [] (datP ρ i []) = _
  unfold frzB frz2
  cases datP ρ i [] with
  | none => rfl
  | some d =>
    show (if d.imm = true then _ else _) = frz3 ρ i d d.imm
    cases d.imm <;> rfl
theorem frz2_some : frz2 ρ i (some d) = frz3 ρ i d d.imm := nr rfl
theorem frz3_t : frz3 ρ i d true = some (d, ρ) := nr rfl
theorem frz3_f : frz3 ρ i d false = some (d.plain, ρ.stayA i []) := nr rfl
theorem frzs_nil : frzs [] ρ = some ([], ρ) := nr rfl
theorem frzs_cons : frzs (r :: rs) ρ = frzs1 (frzs rs) (frz1 ρ r) := nr rfl
theorem frzs1_some {F : Rho → Option (List Py × Rho)} : frzs1 F (some (d, ρ)) = frzs2 d (F ρ) := nr rfl
theorem frzs2_some {ds : List Py} : frzs2 d (some (ds, ρ)) = some (d :: ds, ρ) := nr rfl
/-! ### the marks -/
theorem wm_fz : WE (mFz me ρ) K = WE (me ρ) (kB fz1 K) := nr rfl
theorem fz1_im : fz1 (.im d) ρ = .ok (.im d) ρ := nr rfl
theorem fz1_fr : fz1 (.fr d) ρ = .ok (.im d.plain) ρ := nr rfl
theorem fz1_bo : fz1 (.bo i π) ρ = .ok (.bo i π) ρ := nr rfl
/-! ### items of displays -/
theorem itms_nil : itms [] ρ = some ([], ρ) := nr rfl
theorem itms_cons : itms (r :: rs) ρ = itms1 (itms rs) (itm ρ r) := nr rfl
theorem itms1_some {F : Rho → Option (List Py × Rho)} : itms1 F (some (d, ρ)) = itms2 d (F ρ) := nr rfl
theorem itm_im : itm ρ (.im d) = some (wrap1 d, ρ) := nr rfl
theorem itm_fr : itm ρ (.fr d) = some (d, ρ) := nr rfl
def itm3 (ρ : Rho) (i : Nat) (d : Py) : Bool → Option (Py × Rho)
  | true => some (d, ρ)
  | false => some (.fz d.unfz, ρ.stayA i [])
def itm2 (ρ : Rho) (i : Nat) : Option Py → Option (Py × Rho)
  | some d => itm3 ρ i d d.imm
  | none => none
theorem itm_bo : itm ρ (.bo i []) = itm2 ρ i (datP ρ i []) := by
  show itmB ρ i [] (datP ρ i []) = _
  unfold itmB itm2
  cases datP ρ i [] with
  | none => rfl
  | some d =>
    show (if d.imm = true then _ else _) = itm3 ρ i d d.imm
    cases d.imm <;> rfl
theorem itm2_some : itm2 ρ i (some d) = itm3 ρ i d d.imm := nr rfl
theorem itm3_t : itm3 ρ i d true = some (d, ρ) := nr rfl
theorem itm3_f : itm3 ρ i d false = some (.fz d.unfz, ρ.stayA i []) := nr rfl
theorem its1_some {ds : List Py} {k : Rho → List Py → ER} : its1 k (some (ds, ρ)) = k ρ ds := nr rfl
theorem lstR_ok {ds : List Py} (h : ds.length ≤ 16777216) : lstR ρ ds = .ok (.fr (.lst ds)) ρ := if_pos h
def tup2 (ρ : Rho) (ds : List Py) : Bool → ER
  | true => .ok (.im (.tup ds)) ρ
  | false => .ok (.fr (.tup ds)) ρ
theorem tupR_ok {ds : List Py} (h : ds.length ≤ 16777216) : tupR ρ ds = tup2 ρ ds (Py.immL ds) := by
  show (if ds.length ≤ sizeLine then (if Py.immL ds = true then _ else _) else _) = _
  rw [if_pos (show ds.length ≤ sizeLine from h)]
  cases Py.immL ds <;> rfl
theorem tup2_t : tup2 ρ ds true = .ok (.im (.tup ds)) ρ := nr rfl
theorem tup2_f : tup2 ρ ds false = .ok (.fr (.tup ds)) ρ := nr rfl
theorem imm_int {z : Int} : (Py.int z).imm = true := nr rfl
theorem imm_bl {z : Bool} : (Py.bl z).imm = true := nr rfl
theorem imm_str {z : Str} : (Py.str z).imm = true := nr rfl
theorem imm_non : Py.non.imm = true := nr rfl
theorem imm_tup {l : List Py} : (Py.tup l).imm = Py.immL l := nr rfl
theorem imm_lst {l : List Py} : (Py.lst l).imm = false := nr rfl
theorem imm_fz : (Py.fz d).imm = false := nr rfl
theorem imm_dic {z : Bool} {ks : List Key} {vs : List Py} : (Py.dic z ks vs).imm = false := nr rfl
theorem imm_obj {ks : List Str} {vs : List Py} : (Py.obj c ks vs).imm = false := nr rfl
theorem immL_nil : Py.immL [] = true := nr rfl
theorem immL_cons {l : List Py} : Py.immL (d :: l) = (d.imm && Py.immL l) := nr rfl
theorem immL_iL : ∀ ns : List Int, Py.immL (ns.map Py.int) = true
  | [] => rfl
  | n :: ns => immL_iL ns
theorem immL_app : ∀ {l k : List Py}, Py.immL (l ++ k) = (Py.immL l && Py.immL k)
  | [], _ => rfl
  | d :: l, k => by show (d.imm && Py.immL (l ++ k)) = ((d.imm && Py.immL l) && Py.immL k); rw [immL_app, Bool.and_assoc]
theorem immL_all {l : List Py} (h : ∀ d ∈ l, d.imm = true) : Py.immL l = true := by
  induction l with
  | nil => rfl
  | cons d l ih => exact Bool.and_eq_true_iff.mpr ⟨h d List.mem_cons_self, ih fun x hx => h x (List.mem_cons_of_mem _ hx)⟩
theorem mut_lst {l : List Py} : (Py.lst l).mut = true := nr rfl
theorem mut_dic {z : Bool} {ks : List Key} {vs : List Py} : (Py.dic z ks vs).mut = true := nr rfl
theorem mut_obj {ks : List Str} {vs : List Py} : (Py.obj c ks vs).mut = true := nr rfl
theorem wrap1_ok (h : d.imm = true) : wrap1 d = d := if_pos h
theorem wrap1_no (h : d.imm = false) : wrap1 d = .fz d.unfz := if_neg (by rw [h]; decide)
theorem wrap1_lst {l : List Py} : wrap1 (.lst l) = .fz (.lst l) := nr rfl
theorem wrap1_int {z : Int} : wrap1 (.int z) = .int z := nr rfl
theorem wrap1_str {z : Str} : wrap1 (.str z) = .str z := nr rfl
theorem wrap1_bl {z : Bool} : wrap1 (.bl z) = .bl z := nr rfl
theorem wrap1_non : wrap1 .non = .non := nr rfl
theorem wrap_lst {l : List Py} : Py.wrap (.lst l) = .lst (l.map wrap1) := nr rfl
theorem unfz_int {z : Int} : Py.unfz (.int z) = .int z := nr rfl
theorem unfz_str {z : Str} : Py.unfz (.str z) = .str z := nr rfl
theorem unfz_bl {z : Bool} : Py.unfz (.bl z) = .bl z := nr rfl
theorem unfz_non : Py.unfz .non = .non := nr rfl
theorem unfz_tup {l : List Py} : Py.unfz (.tup l) = .tup l := nr rfl
theorem unfz_lst {l : List Py} : Py.unfz (.lst l) = .lst l := nr rfl
theorem unfz_scr {l : List Py} : Py.unfz (.scr l) = .scr l := nr rfl
theorem unfz_dic {z : Bool} {ks : List Key} {vs : List Py} : Py.unfz (.dic z ks vs) = .dic z ks vs := nr rfl
theorem unfz_obj {ks : List Str} {vs : List Py} : Py.unfz (.obj c ks vs) = .obj c ks vs := nr rfl
theorem unfz_fz : Py.unfz (.fz d) = d.unfz := nr rfl
mutual
def Py.pl : Py → Bool
  | .fz _ => false
  | .tup l => Py.plL l
  | .lst l => Py.plL l
  | .scr l => Py.plL l
  | .dic _ _ l => Py.plL l
  | .dit _ _ l => Py.plL l
  | .obj _ _ l => Py.plL l
  | _ => true
def Py.plL : List Py → Bool
  | [] => true
  | d :: l => d.pl && Py.plL l
end
mutual
theorem plain_pl : ∀ {d : Py}, d.pl = true → d.plain = d
  | .non, _ => by simp only [Py.plain]
  | .bl _, _ => by simp only [Py.plain]
  | .int _, _ => by simp only [Py.plain]
  | .str _, _ => by simp only [Py.plain]
  | .tup l, h => by simp only [Py.plain]; rw [plainL_pl (l := l) h]
  | .lst l, h => by simp only [Py.plain]; rw [plainL_pl (l := l) h]
  | .scr l, h => by simp only [Py.plain]; rw [plainL_pl (l := l) h]
  | .dic _ _ l, h => by simp only [Py.plain]; rw [plainL_pl (l := l) h]
  | .dit _ _ l, h => by simp only [Py.plain]; rw [plainL_pl (l := l) h]
  | .obj _ _ l, h => by simp only [Py.plain]; rw [plainL_pl (l := l) h]
  | .fz _, h => by cases h
theorem plainL_pl : ∀ {l : List Py}, Py.plL l = true → Py.plainL l = l
  | [], _ => by simp only [Py.plainL]
  | d :: l, h => by
    have q := Bool.and_eq_true_iff.mp (show (d.pl && Py.plL l) = true from h)
    simp only [Py.plainL]; rw [plain_pl q.1, plainL_pl q.2]
end
theorem plainL_map : ∀ l : List Py, Py.plainL l = l.map Py.plain
  | [] => by simp only [Py.plainL, List.map_nil]
  | d :: l => by simp only [Py.plainL, List.map_cons]; rw [plainL_map l]
mutual
theorem imm_pl : ∀ {d : Py}, d.imm = true → d.pl = true
  | .non, _ => rfl
  | .bl _, _ => rfl
  | .int _, _ => rfl
  | .str _, _ => rfl
  | .tup l, h => immL_plL (l := l) h
  | .lst _, h => by cases h
  | .scr _, h => by cases h
  | .dic _ _ _, h => by cases h
  | .dit _ _ _, h => by cases h
  | .obj _ _ _, h => by cases h
  | .fz _, h => by cases h
theorem immL_plL : ∀ {l : List Py}, Py.immL l = true → Py.plL l = true
  | [], _ => rfl
  | d :: l, h => by
    have q := Bool.and_eq_true_iff.mp (show (d.imm && Py.immL l) = true from h)
    exact Bool.and_eq_true_iff.mpr ⟨imm_pl q.1, immL_plL q.2⟩
end
theorem plL_all {l : List Py} (h : ∀ d ∈ l, d.pl = true) : Py.plL l = true := by
  induction l with
  | nil => rfl
  | cons d l ih => exact Bool.and_eq_true_iff.mpr ⟨h d List.mem_cons_self, ih fun x hx => h x (List.mem_cons_of_mem _ hx)⟩
theorem plain_unfz : ∀ {d : Py}, d.unfz.plain = d.plain
  | .fz d => by show d.unfz.plain = _; rw [plain_unfz (d := d)]; simp only [Py.plain]
  | .non => rfl
  | .bl _ => rfl
  | .int _ => rfl
  | .str _ => rfl
  | .tup _ => rfl
  | .lst _ => rfl
  | .scr _ => rfl
  | .dic _ _ _ => rfl
  | .dit _ _ _ => rfl
  | .obj _ _ _ => rfl
theorem plain_wrap1 : (wrap1 d).plain = d.plain := by
  unfold wrap1
  by_cases h : d.imm = true
  · rw [if_pos h]
  · rw [if_neg h]; simp only [Py.plain]; exact plain_unfz
theorem plain_lst {l : List Py} : (Py.lst l).plain = .lst (l.map Py.plain) := by simp only [Py.plain]; rw [plainL_map]
theorem plain_tup {l : List Py} : (Py.tup l).plain = .tup (l.map Py.plain) := by simp only [Py.plain]; rw [plainL_map]
theorem plain_int {z : Int} : (Py.int z).plain = .int z := by simp only [Py.plain]
theorem plain_str {z : Str} : (Py.str z).plain = .str z := by simp only [Py.plain]
theorem plain_bl {z : Bool} : (Py.bl z).plain = .bl z := by simp only [Py.plain]
theorem plain_non : Py.non.plain = .non := by simp only [Py.plain]
theorem plain_fz : (Py.fz d).plain = d.plain := by simp only [Py.plain]
theorem plain_dic {z : Bool} {ks : List Key} {l : List Py} : (Py.dic z ks l).plain = .dic z ks (l.map Py.plain) := by simp only [Py.plain]; rw [plainL_map]
theorem plain_obj {ks : List Str} {l : List Py} : (Py.obj c ks l).plain = .obj c ks (l.map Py.plain) := by simp only [Py.plain]; rw [plainL_map]
theorem plain_iL (ns : List Int) : (ns.map Py.int).map Py.plain = ns.map Py.int := by rw [List.map_map]; exact List.map_congr_left fun x _ => plain_int
theorem map_pl {l : List Py} (h : ∀ d ∈ l, d.pl = true) : l.map Py.plain = l := by
  have := List.map_congr_left (f := Py.plain) (g := id) (l := l) fun x hx => plain_pl (h x hx)
  rwa [List.map_id] at this
theorem map_pw {l : List Py} : (l.map wrap1).map Py.plain = l.map Py.plain := by rw [List.map_map]; exact List.map_congr_left fun x _ => plain_wrap1
/-! ### slots are set -/
def setS3 (ρ : Rho) (i : Nat) (s : Sl) : Option Sl → Option Rho
  | some old => if old.isIo = true then none else some (ρ.set i s)
  | none => none
def setS4 (ρ : Rho) (i : Nat) (s : Sl) : Bool → Option Rho
  | true => setS3 ρ i s ρ[i]?
  | false => setS2 ρ i s ρ[i]?
theorem setS4_t {s : Sl} : setS4 ρ i s true = setS3 ρ i s ρ[i]? := nr rfl
theorem ev_setS {s : Sl} : setS ρ i s = setS4 ρ i s (nal ρ) := by
  cases h : nal ρ
  · rfl
  show setS ρ i s = setS3 ρ i s ρ[i]?
  unfold setS setS2 setS3
  rw [nal_kill h]
  try (cases ρ[i]? <;> rfl)
theorem setS3_no {s : Sl} : setS3 ρ i s (some .no) = some (ρ.set i s) := nr rfl
theorem setS3_im {s : Sl} : setS3 ρ i s (some (.im false d)) = some (ρ.set i s) := nr rfl
theorem setS3_ow {s : Sl} : setS3 ρ i s (some (.ow false d)) = some (ρ.set i s) := nr rfl
theorem setS3_fS {s : Sl} : setS3 ρ i s (some (fS o)) = some (ρ.set i s) := by
  match o with
  | none => rfl
  | some (true, d) => rfl
  | some (false, d) => rfl
theorem setRv_im : setRv i (.im d) ρ = setS ρ i (.im false d) := nr rfl
theorem setRv_fr : setRv i (.fr d) ρ = setS ρ i (.ow false d) := nr rfl
theorem par2_some : par2 j s (some ρ) = optS (setRv j s ρ) := nr rfl
theorem parOk_im : parOk i (.im d) = true := nr rfl
theorem parOk_fr : parOk i (.fr d) = true := nr rfl
def parA' (i j : Nat) (r s : Rv) (ρ : Rho) : Bool → SR
  | true => par2 j s (setRv i r ρ)
  | false => .st
theorem parA_2 : parA i j [r, s] ρ = parA' i j r s ρ (parOk i s) := by
  show (if parOk i s = true then par2 j s (setRv i r ρ) else .st) = _
  cases parOk i s <;> rfl
theorem parA'_t : parA' i j r s ρ true = par2 j s (setRv i r ρ) := nr rfl
end
end Mr
/-! Dp: rows for running a mirror: stores, calls, loops, comprehensions -/
namespace Mr
open PySem L2
section
variable {ρ ρ1 ρ2 : Rho} {f g : Py → Py → OV} {h : Py → OV} {fl : List Py → OV} {ma mb mc mt me mo ml mh mi my md mx : ME} {mm mr : MA} {a b : MS} {i j n m : Nat} {r s : Rv} {d e : Py} {io : Bool} {K : ER → Prop} {KA : AR → Prop} {KS : SR → Prop} {KI : IR → Prop} {rs : List Rv} {as : List Av} {c : Nat} {w : Py} {π : List Nat} {o : Option (Bool × Py)} {ds : List Py} {l : List Py}
/-! ### stores -/
def sto4 (ρ : Rho) (i : Nat) (io : Bool) : Option (Nat × Py) → Option Rho
  | some (_, d') => if d'.imm = true then none else some (ρ.set i (.ow io d'))
  | none => none
def sto3 (ρ : Rho) (i : Nat) (g : Py → Option (Nat × Py)) : Option Sl → Option Rho
  | some (.ow io t) => if t.mut = true then sto4 ρ i io (g t) else none
  | _ => none
def sto2 (i : Nat) (g : Py → Py → Option (Nat × Py)) : Option (Py × Rho) → Option Rho
  | some (k, ρ1) => sto3 ρ1 i (g k) ρ1[i]?
  | none => none
theorem sto_eq {g : Py → Option (Nat × Py)} (h : nal ρ = true) : st2 ρ i [] g ρ[i]? = sto3 ρ i g ρ[i]? := by
  cases q : ρ[i]? with
  | none => rfl
  | some s =>
    cases s with
    | ow io t =>
      show (if t.mut = true then st3 ρ i [] io t (g t) else none) = (if t.mut = true then sto4 ρ i io (g t) else none)
      cases g t with
      | none => rfl
      | some x =>
        show (if t.mut = true then (if x.2.imm = true then none else some (ρ.wr i [] io t x.2 fun m => m != x.1)) else none) = _
        unfold Rho.wr
        rw [nal_cutW h]
        rfl
    | _ => rfl
def sto5 (ρ : Rho) (i : Nat) (g : Py → Option (Nat × Py)) : Bool → Option Rho
  | true => sto3 ρ i g ρ[i]?
  | false => st2 ρ i [] g ρ[i]?
theorem sto5_t {g : Py → Option (Nat × Py)} : sto5 ρ i g true = sto3 ρ i g ρ[i]? := nr rfl
theorem sto_im {g : Py → Py → Option (Nat × Py)} : store ρ (.bo i []) (.im d) g = sto5 ρ i (g (wrap1 d)) (nal ρ) := by
  cases h : nal ρ
  · rfl
  · exact sto_eq h
theorem sto_fr {g : Py → Py → Option (Nat × Py)} : store ρ (.bo i []) (.fr d) g = sto5 ρ i (g d) (nal ρ) := by
  cases h : nal ρ
  · rfl
  · exact sto_eq h
theorem sto_bo {g : Py → Py → Option (Nat × Py)} (h : nal ρ = true) (hx : ∀ k ρ1, itm ρ (.bo j []) = some (k, ρ1) → nal ρ1 = true) : store ρ (.bo i []) (.bo j []) g = sto2 i g (itm ρ (.bo j [])) := by
  unfold store
  cases q : itm ρ (.bo j []) with
  | none => rfl
  | some z => exact sto_eq (hx z.1 z.2 q)
theorem sto_bo3 {g : Py → Py → Option (Nat × Py)} (hn : nal ρ = true) (hj : ρ[j]? = some (.ow io d)) (im : d.imm = false) : store ρ (.bo i []) (.bo j []) g = sto3 (ρ.set j (.im io d)) i (g (.fz d.unfz)) (ρ.set j (.im io d))[i]? := by
  have e : itm ρ (.bo j []) = some (.fz d.unfz, ρ.set j (.im io d)) := by
    rw [itm_bo, ev_datP, hj, datS_ow, itm2_some, im, itm3_f, ev_stayA, hn, stay4_t, hj]; rfl
  unfold store
  rw [e]
  exact sto_eq (nal_set hn rfl)
theorem sto3_lst {g : Py → Option (Nat × Py)} : sto3 ρ i g (some (.ow io (.lst l))) = sto4 ρ i io (g (.lst l)) := nr rfl
theorem sto3_dic {g : Py → Option (Nat × Py)} {lk : Bool} {ks : List Key} : sto3 ρ i g (some (.ow io (.dic lk ks l))) = sto4 ρ i io (g (.dic lk ks l)) := nr rfl
theorem sto3_obj {g : Py → Option (Nat × Py)} {ks : List Str} : sto3 ρ i g (some (.ow io (.obj c ks l))) = sto4 ρ i io (g (.obj c ks l)) := nr rfl
theorem sto4_lst : sto4 ρ i io (some (n, .lst l)) = some (ρ.set i (.ow io (.lst l))) := nr rfl
theorem sto4_dic {lk : Bool} {ks : List Key} : sto4 ρ i io (some (n, .dic lk ks l)) = some (ρ.set i (.ow io (.dic lk ks l))) := nr rfl
theorem sto4_obj {ks : List Str} : sto4 ρ i io (some (n, .obj c ks l)) = some (ρ.set i (.ow io (.obj c ks l))) := nr rfl
theorem putApp_ok (h : l.length < 16777216) : putApp d (.lst l) = some (l.length, .lst (l ++ [d])) := if_pos h
theorem putIx_L {x : Int} : putIx (.int x) d (.lst l) = putSq .lst l d (ixN l.length x) := nr rfl
theorem putSq_some : putSq .lst l d (some n) = some (n, .lst (l.set n d)) := nr rfl
theorem ixN_nat {k : Nat} (h : n < k) : ixN k (n : Int) = some n := by
  unfold ixN
  rw [if_pos (by omega), if_pos (by omega), Int.toNat_natCast]
theorem ixN_int {k : Nat} {x : Int} (h0 : 0 ≤ x) (h : x < (k : Int)) : ixN k x = some x.toNat := by
  unfold ixN
  rw [if_pos h0, if_pos (by omega)]
theorem ixN_last {k : Nat} (h : 0 < k) : ixN k (-1) = some (k - 1) := by
  unfold ixN
  rw [if_neg (by omega), if_pos (by omega)]
  congr 1; omega
theorem putA_3 {x y : Rv} : putA [r, x, y] ρ = putK3 ρ r x (datR ρ y) := nr rfl
theorem putK3_some {x : Rv} : putK3 ρ r x (some e) = optS (store ρ x r (putIx e)) := nr rfl
theorem opC_1 {op : MOp} {y : Rv} : opC op (y :: rs) ρ = op y rs ρ := nr rfl
theorem opApp_1 {x : Rv} : opAppend x [r] ρ = optE (store ρ x r putApp) := nr rfl
theorem tyR_eq {N : String} : tyR N ρ r = tyO N (datR ρ r) := nr rfl
theorem tyO_l : tyO "list" (some (.lst l)) = true := nr rfl
theorem wm_chk2 {ck : Rho → Rv → Bool} : WE (.ok r ρ) (kChk ck K) = WE (if ck ρ r = true then .ok r ρ else .st) K := nr rfl
/-! ### an item -/
theorem ix2_some : ix2 ρ r (some d) (some e) = ix3 ρ r e d := nr rfl
theorem ix3_L : ix3 ρ r e (.lst l) = kidAt ρ r (.lst l) (ixD (.lst l) e) := nr rfl
theorem ix3_T : ix3 ρ r e (.tup l) = kidAt ρ r (.tup l) (ixD (.tup l) e) := nr rfl
theorem ix3_S : ix3 ρ r e (.scr l) = kidAt ρ r (.scr l) (ixD (.scr l) e) := nr rfl
theorem ix3_s {z : Str} : ix3 ρ r e (.str z) = ixS ρ z e := nr rfl
theorem ixD_L {x : Int} : ixD (.lst l) (.int x) = ixN l.length x := nr rfl
theorem ixD_T {x : Int} : ixD (.tup l) (.int x) = ixN l.length x := nr rfl
theorem ixD_S {x : Int} : ixD (.scr l) (.int x) = ixN l.length x := nr rfl
theorem ix_n0 {k : Nat} : ixN (k + 1) 0 = some 0 := by rw [show (0 : Int) = ((0 : Nat) : Int) from rfl]; exact ixN_nat (by omega)
theorem ix_n1 {k : Nat} (h : 1 < k) : ixN k 1 = some 1 := by rw [show (1 : Int) = ((1 : Nat) : Int) from rfl]; exact ixN_nat h
theorem ix_n2 {k : Nat} (h : 2 < k) : ixN k 2 = some 2 := by rw [show (2 : Int) = ((2 : Nat) : Int) from rfl]; exact ixN_nat h
theorem ix_n3 {k : Nat} (h : 3 < k) : ixN k 3 = some 3 := by rw [show (3 : Int) = ((3 : Nat) : Int) from rfl]; exact ixN_nat h
theorem ix_n4 {k : Nat} (h : 4 < k) : ixN k 4 = some 4 := by rw [show (4 : Int) = ((4 : Nat) : Int) from rfl]; exact ixN_nat h
theorem ix_n5 {k : Nat} (h : 5 < k) : ixN k 5 = some 5 := by rw [show (5 : Int) = ((5 : Nat) : Int) from rfl]; exact ixN_nat h
theorem ix_n6 {k : Nat} (h : 6 < k) : ixN k 6 = some 6 := by rw [show (6 : Int) = ((6 : Nat) : Int) from rfl]; exact ixN_nat h
theorem ix_n7 {k : Nat} (h : 7 < k) : ixN k 7 = some 7 := by rw [show (7 : Int) = ((7 : Nat) : Int) from rfl]; exact ixN_nat h
theorem ix_n8 {k : Nat} (h : 8 < k) : ixN k 8 = some 8 := by rw [show (8 : Int) = ((8 : Nat) : Int) from rfl]; exact ixN_nat h
theorem ix_n9 {k : Nat} (h : 9 < k) : ixN k 9 = some 9 := by rw [show (9 : Int) = ((9 : Nat) : Int) from rfl]; exact ixN_nat h
theorem ix_n10 {k : Nat} (h : 10 < k) : ixN k 10 = some 10 := by rw [show (10 : Int) = ((10 : Nat) : Int) from rfl]; exact ixN_nat h
theorem ix_n11 {k : Nat} (h : 11 < k) : ixN k 11 = some 11 := by rw [show (11 : Int) = ((11 : Nat) : Int) from rfl]; exact ixN_nat h
theorem ix_n12 {k : Nat} (h : 12 < k) : ixN k 12 = some 12 := by rw [show (12 : Int) = ((12 : Nat) : Int) from rfl]; exact ixN_nat h
theorem ix_n13 {k : Nat} (h : 13 < k) : ixN k 13 = some 13 := by rw [show (13 : Int) = ((13 : Nat) : Int) from rfl]; exact ixN_nat h
theorem ix_n14 {k : Nat} (h : 14 < k) : ixN k 14 = some 14 := by rw [show (14 : Int) = ((14 : Nat) : Int) from rfl]; exact ixN_nat h
theorem ix_n15 {k : Nat} (h : 15 < k) : ixN k 15 = some 15 := by rw [show (15 : Int) = ((15 : Nat) : Int) from rfl]; exact ixN_nat h
theorem ix_n16 {k : Nat} (h : 16 < k) : ixN k 16 = some 16 := by rw [show (16 : Int) = ((16 : Nat) : Int) from rfl]; exact ixN_nat h
/-- an item of a sequence, taken -/
def kid3 (ρ : Rho) (r : Rv) (n : Nat) : Option Py → ER
  | some k => .ok (kidF ρ r n k) ρ
  | none => .st
theorem kidAt_L : kidAt ρ r (.lst l) (some n) = kid3 ρ r n l[n]? := nr rfl
theorem kidAt_T : kidAt ρ r (.tup l) (some n) = kid3 ρ r n l[n]? := nr rfl
theorem kidAt_S : kidAt ρ r (.scr l) (some n) = kid3 ρ r n l[n]? := nr rfl
theorem kid3_some : kid3 ρ r n (some d) = .ok (kidF ρ r n d) ρ := nr rfl
theorem kidF_i : kidF ρ (.im e) n d = .im d.unfz := by
  unfold kidF stays
  rw [show (d.own && !true) = false by cases d.own <;> rfl]
  rfl
theorem kidF_imm (h : d.imm = true) : kidF ρ r n d = .im d := by
  unfold kidF Py.own
  rw [h]
  show Rv.im d.unfz = .im d
  cases d <;> first | rfl | cases h
def kid4 (ρ : Rho) (i : Nat) (π : List Nat) (n : Nat) (k : Py) : Option Sl → Rv
  | some (.im _ _) => .im k.unfz
  | _ => if k.own = true then .bo i (π ++ [n]) else .im k.unfz
theorem kidF_bo : kidF ρ (.bo i π) n d = kid4 ρ i π n d ρ[i]? := by
  unfold kidF stays kid4
  cases q : ρ[i]? with
  | none => cases hk : d.own <;> simp [kidO, q]
  | some s => cases s <;> cases hk : d.own <;> simp [kidO, q]
def kid6 (i : Nat) (π : List Nat) (n : Nat) (k : Py) : Bool → Rv
  | true => .bo i (π ++ [n])
  | false => .im k.unfz
theorem kid4_ow : kid4 ρ i π n d (some (.ow io e)) = kid6 i π n d d.own := by
  show (if d.own = true then Rv.bo i (π ++ [n]) else .im d.unfz) = _
  cases d.own <;> rfl
theorem kid6_t : kid6 i π n d true = .bo i (π ++ [n]) := nr rfl
theorem kid6_f : kid6 i π n d false = .im d.unfz := nr rfl
theorem own_int {z : Int} : (Py.int z).own = false := nr rfl
theorem own_str {z : Str} : (Py.str z).own = false := nr rfl
theorem own_bl {z : Bool} : (Py.bl z).own = false := nr rfl
theorem own_non : Py.non.own = false := nr rfl
theorem own_fz : (Py.fz d).own = false := nr rfl
theorem own_lst : (Py.lst l).own = true := nr rfl
theorem own_dic {z : Bool} {ks : List Key} : (Py.dic z ks l).own = true := nr rfl
theorem own_obj {ks : List Str} : (Py.obj c ks l).own = true := nr rfl
theorem own_tup : (Py.tup l).own = !Py.immL l := by unfold Py.own; show (!Py.immL l && true) = _; rw [Bool.and_true]
theorem kid4_im : kid4 ρ i π n d (some (.im io e)) = .im d.unfz := nr rfl
/-! ### a call -/
/-- what a call gives, where nothing is lent -/
def ofD (ρ : Rho) : DR → ER
  | .ok (.im d) _ => .ok (.im d) ρ
  | .ok (.fr d) _ => .ok (.fr d) ρ
  | .ex c w _ => .ex c w ρ
  | _ => .st
/-- .. where slot i is lent first -/
def ofD1 (ρ : Rho) (i : Nat) (io : Bool) : DR → ER
  | .ok (.im d) (.ow _ t :: _) => if t.imm = true then .st else .ok (.im d) (ρ.set i (.ow io t))
  | .ok (.fr d) (.ow _ t :: _) => if t.imm = true then .st else .ok (.fr d) (ρ.set i (.ow io t))
  | .ex c w (.ow _ t :: _) => if t.imm = true then .st else .ex c w (ρ.set i (.ow io t))
  | _ => .st
theorem argsC_nil : argsC [] [] ρ = some ([], ρ) := nr rfl
theorem argsC_cons {x : Bool} {ios : List Bool} : argsC (x :: ios) (r :: rs) ρ = argC1 (argsC ios rs) (argC ρ x r) := nr rfl
theorem argC1_some {F : Rho → Option (List Rv × Rho)} : argC1 F (some (r, ρ)) = argC2 r (F ρ) := nr rfl
theorem argC2_some : argC2 r (some (rs, ρ)) = some (r :: rs, ρ) := nr rfl
theorem argC_im {x : Bool} : argC ρ x (.im d) = some (.im d, ρ) := by cases x <;> rfl
theorem argC_fr {x : Bool} : argC ρ x (.fr d) = some (.fr d, ρ) := by cases x <;> rfl
theorem argC_bt : argC ρ true (.bo i π) = some (.bo i π, ρ) := nr rfl
def arg3 (ρ : Rho) (i : Nat) (d : Py) : Bool → Option (Rv × Rho)
  | true => some (.im d, ρ)
  | false => some (.im d.plain, ρ.stayA i [])
def arg2 (ρ : Rho) (i : Nat) : Option Py → Option (Rv × Rho)
  | some d => arg3 ρ i d d.imm
  | none => none
theorem argC_bf : argC ρ false (.bo i []) = arg2 ρ i (datP ρ i []) := by
  show argB ρ i [] (datP ρ i []) = _
  unfold argB arg2
  cases datP ρ i [] with
  | none => rfl
  | some d =>
    show (if d.imm = true then _ else _) = arg3 ρ i d d.imm
    cases d.imm <;> rfl
theorem arg2_some : arg2 ρ i (some d) = arg3 ρ i d d.imm := nr rfl
theorem arg3_t : arg3 ρ i d true = some (.im d, ρ) := nr rfl
theorem arg3_f : arg3 ρ i d false = some (.im d.plain, ρ.stayA i []) := nr rfl
theorem lends_im {ios : List Bool} {ds : List Py} (hi : ios = ds.map fun _ => false) : lendsOf ρ ios (ds.map .im) = some (ds.map fun d => (.im false d, none)) := by
  subst hi
  induction ds with
  | nil => rfl
  | cons d ds ih =>
    show lendC _ (lendsOf ρ (ds.map fun _ => false) (ds.map .im)) = _
    rw [ih]; rfl
theorem lnIx_im (ds : List Py) : lnIx (ds.map fun d => (Sl.im false d, (none : Ln))) = [] := by
  induction ds with
  | nil => rfl
  | cons d ds ih => exact ih
theorem outs_ne : ∀ {as : List Sl} {ρ : Rho}, (outsOf as ρ).length = as.length
  | [], _ => rfl
  | a :: as, s :: ρ => congrArg (· + 1) (outs_ne (as := as))
  | a :: as, [] => congrArg (· + 1) (outs_ne (as := as))
theorem backs_im {ds : List Py} : ∀ {os : List Sl}, ds.length ≤ os.length → backs (ds.map fun d => (Sl.im false d, (none : Ln))) os ρ = some ρ := by
  induction ds with
  | nil => intros; rfl
  | cons d ds ih =>
    intro os hl
    cases os with
    | nil => cases hl
    | cons o os => exact ih (os := os) (Nat.le_of_succ_le_succ hl)
/-- how many come out -/
def DR.lenOk (k : Nat) : DR → Prop
  | .ok _ os => os.length = k
  | .ex _ _ os => os.length = k
  | .st => True
theorem retB_len {as : List Sl} {o : Option Sl} : (retB as ρ i π o).lenOk as.length := by
  cases o with
  | none => trivial
  | some s =>
    cases s with
    | no => trivial
    | al _ _ => trivial
    | im io t =>
      show DR.lenOk _ (if π = [] then DR.ok (.im t) (outsOf as ρ) else .st)
      split
      · exact outs_ne
      · trivial
    | ow io t =>
      cases io with
      | true =>
        show DR.lenOk _ (if isIoAt as[i]? = true then retP (fun _ => .ok (.bo i π) (outsOf as ρ)) (t.getP π) else .st)
        split
        · cases t.getP π with
          | none => trivial
          | some d =>
            show DR.lenOk _ (if d.mut = true then DR.ok (.bo i π) (outsOf as ρ) else .st)
            split
            · exact outs_ne
            · trivial
        · trivial
      | false =>
        show DR.lenOk _ (retP (fun d => .ok (.fr d) (outsOf as ρ)) (t.getP π))
        cases t.getP π with
        | none => trivial
        | some d =>
          show DR.lenOk _ (if d.mut = true then DR.ok (.fr d) (outsOf as ρ) else .st)
          split
          · exact outs_ne
          · trivial
theorem run_len {m : DM} {as : List Sl} : (m.run as).lenOk as.length := by
  unfold DM.run
  cases m.body (as ++ List.replicate (m.n - as.length) .no) with
  | nx ρ => exact outs_ne
  | rt r ρ =>
    cases r with
    | im d => exact outs_ne
    | fr d => exact outs_ne
    | bo i π => exact retB_len
  | ex c w ρ => exact outs_ne
  | _ => trivial
theorem call_im {m : DM} {ds : List Py} (hi : m.ios = ds.map fun _ => false) (hn : nal ρ = true) : call1 m (some (ds.map .im, ρ)) = ofD ρ (m.run (ds.map (.im false))) := by
  show call2 m ρ (lendsOf ρ m.ios (ds.map .im)) = _
  rw [lends_im hi]
  show (if ((lnIx (ds.map fun d => (Sl.im false d, (none : Ln)))).map (·.1)).Nodup then callE _ ρ (m.run ((ds.map fun d => (Sl.im false d, (none : Ln))).map (·.1))) else .st) = _
  rw [lnIx_im, if_pos (by simp)]
  have e : (ds.map fun d => (Sl.im false d, (none : Ln))).map (·.1) = ds.map (.im false) := by rw [List.map_map]; rfl
  rw [e]
  have hlen := run_len (m := m) (as := ds.map (.im false))
  rw [List.length_map] at hlen
  cases q : m.run (ds.map (.im false)) with
  | st => rfl
  | ex c w os =>
    rw [q] at hlen
    have hlen : os.length = ds.length := hlen
    show resX c w (backs _ os (ρ.map (Sl.cutC ρ (lnIx (ds.map fun d => (Sl.im false d, (none : Ln))))))) = _
    rw [nal_cutC hn, backs_im (by omega)]; rfl
  | ok r os =>
    rw [q] at hlen
    have hlen : os.length = ds.length := hlen
    show resK _ r (backs _ os (ρ.map (Sl.cutC ρ (lnIx (ds.map fun d => (Sl.im false d, (none : Ln))))))) = _
    rw [nal_cutC hn, backs_im (by omega)]
    cases r with
    | im d => rfl
    | fr d => rfl
    | bo k π =>
      show resL π ρ (ds.map fun d => (Sl.im false d, (none : Ln)))[k]? = .st
      rw [List.getElem?_map]
      cases ds[k]? <;> rfl
theorem call_io {m : DM} {ds : List Py} {t : Py} (hi : m.ios = true :: ds.map fun _ => false) (hn : nal ρ = true) (hx : ρ[i]? = some (.ow io t)) (hm : t.mut = true) (hr : ∀ k π os, m.run (.ow true t :: ds.map (.im false)) ≠ .ok (.bo k π) os) : call1 m (some (.bo i [] :: ds.map .im, ρ)) = ofD1 ρ i io (m.run (.ow true t :: ds.map (.im false))) := by
  have e0 : lendsOf ρ m.ios (.bo i [] :: ds.map .im) = some ((.ow true t, some (i, [])) :: ds.map fun d => (.im false d, none)) := by
    rw [hi]
    show lendC (lendB i [] ρ[i]?) (lendsOf ρ (ds.map fun _ => false) (ds.map .im)) = _
    rw [lends_im rfl, hx]
    show lendC (if t.mut = true then some (Sl.ow true t, some (i, [])) else none) _ = _
    rw [if_pos hm]; rfl
  show call2 m ρ (lendsOf ρ m.ios (.bo i [] :: ds.map .im)) = _
  rw [e0]
  show (if ((lnIx ((Sl.ow true t, (some (i, []) : Ln)) :: ds.map fun d => (Sl.im false d, (none : Ln)))).map (·.1)).Nodup then callE _ ρ (m.run (((Sl.ow true t, (some (i, []) : Ln)) :: ds.map fun d => (Sl.im false d, (none : Ln))).map (·.1))) else .st) = _
  have e1 : lnIx ((Sl.ow true t, (some (i, []) : Ln)) :: ds.map fun d => (Sl.im false d, (none : Ln))) = [(i, [])] := by
    show (i, []) :: lnIx (ds.map fun d => (Sl.im false d, (none : Ln))) = _
    rw [lnIx_im]
  rw [e1, if_pos (by simp)]
  have e : ((Sl.ow true t, (some (i, []) : Ln)) :: ds.map fun d => (Sl.im false d, (none : Ln))).map (·.1) = .ow true t :: ds.map (.im false) := by rw [List.map_cons, List.map_map]; rfl
  rw [e]
  have hlen := run_len (m := m) (as := .ow true t :: ds.map (.im false))
  rw [List.length_cons, List.length_map] at hlen
  have bk : ∀ os : List Sl, os.length = ds.length + 1 → backs ((Sl.ow true t, (some (i, []) : Ln)) :: ds.map fun d => (Sl.im false d, (none : Ln))) os ρ = match os with
    | .ow _ t' :: _ => if t'.imm = true then none else some (ρ.set i (.ow io t'))
    | _ => none := by
    intro os ho
    cases os with
    | nil => cases ho
    | cons x os =>
      show backO (backs (ds.map fun d => (Sl.im false d, (none : Ln))) os) (back1 i [] ρ x) = _
      have hl : ds.length ≤ os.length := by rw [List.length_cons] at ho; omega
      cases x with
      | ow io' t' =>
        show backO _ (back2 i [] ρ t' ρ[i]?) = (if t'.imm = true then none else some (ρ.set i (.ow io t')))
        rw [hx]
        show backO _ (if t'.imm = true then none else some (ρ.set i (.ow io (t.putP [] t')))) = _
        by_cases z : t'.imm = true
        · rw [if_pos z, if_pos z]; rfl
        · rw [if_neg z, if_neg z]
          show backs _ os (ρ.set i (.ow io t')) = _
          exact backs_im hl
      | _ => rfl
  cases q : m.run (.ow true t :: ds.map (.im false)) with
  | st => rfl
  | ex c w os =>
    rw [q] at hlen
    have hlen : os.length = ds.length + 1 := hlen
    show resX c w (backs _ os (ρ.map (Sl.cutC ρ (lnIx _)))) = _
    rw [nal_cutC hn, bk os hlen]
    cases os with
    | nil => rfl
    | cons x os =>
      cases x with
      | ow io' t' =>
        show resX c w (if t'.imm = true then none else some (ρ.set i (.ow io t'))) = (if t'.imm = true then .st else .ex c w (ρ.set i (.ow io t')))
        by_cases z : t'.imm = true
        · rw [if_pos z, if_pos z]; rfl
        · rw [if_neg z, if_neg z]; rfl
      | _ => rfl
  | ok r os =>
    rw [q] at hlen
    have hlen : os.length = ds.length + 1 := hlen
    show resK _ r (backs _ os (ρ.map (Sl.cutC ρ (lnIx _)))) = _
    rw [nal_cutC hn, bk os hlen]
    cases r with
    | bo k π => exact absurd q (hr k π os)
    | im d =>
      cases os with
      | nil => rfl
      | cons x os =>
        cases x with
        | ow io' t' =>
          show resK _ (.im d) (if t'.imm = true then none else some (ρ.set i (.ow io t'))) = (if t'.imm = true then .st else .ok (.im d) (ρ.set i (.ow io t')))
          by_cases z : t'.imm = true
          · rw [if_pos z, if_pos z]; rfl
          · rw [if_neg z, if_neg z]; rfl
        | _ => rfl
    | fr d =>
      cases os with
      | nil => rfl
      | cons x os =>
        cases x with
        | ow io' t' =>
          show resK _ (.fr d) (if t'.imm = true then none else some (ρ.set i (.ow io t'))) = (if t'.imm = true then .st else .ok (.fr d) (ρ.set i (.ow io t')))
          by_cases z : t'.imm = true
          · rw [if_pos z, if_pos z]; rfl
          · rw [if_neg z, if_neg z]; rfl
        | _ => rfl
end
end Mr
/-! Dp: comprehensions, run -/
namespace Mr
open PySem L2
section
variable {ρ ρ1 ρ2 : Rho} {mt me : ME} {a b : MS} {i j n m k0 : Nat} {r s : Rv} {d e : Py} {io : Bool} {K : ER → Prop} {c : Nat} {w : Py} {vs vs1 : List Nat} {mg mg1 : MG} {mt1 : ME} {mi1 : MI} {items : List Py}
/-! ### names wiped -/
theorem wipe_nil : wipeO [] ρ = some ρ := nr rfl
theorem wipe_cons : wipeO (i :: vs) ρ = wipe1 (wipeO vs) (setS ρ i .no) := nr rfl
theorem wipe1_some {F : Rho → Option Rho} : wipe1 F (some ρ) = F ρ := nr rfl
/-! ### a turn -/
def lcI2 (Q : Rho → Prop) [Tg Q] : Option Rho → Prop
  | some ρ => Q ρ
  | none => False
def lcI1 (vs : List Nat) (Q : Rho → Prop) [Tg Q] : Option Rho → Prop
  | some ρ => lcI2 Q (wipeO vs ρ)
  | none => False
def kLcI (vs : List Nat) (k0 : Nat) (Q : Rho → Prop) : ER → Prop
  | .ok r ρ => lcI1 vs Q (store ρ (.bo k0 []) r putApp)
  | _ => False
def lcT2 (vs : List Nat) (k0 : Nat) (me : ME) (Q : Rho → Prop) [Tg Q] (ρ : Rho) : Option Bool → Prop
  | some true => WE (me ρ) (kLcI vs k0 Q)
  | some false => lcI2 Q (wipeO vs ρ)
  | none => False
def kLcT (vs : List Nat) (k0 : Nat) (me : ME) (Q : Rho → Prop) : ER → Prop
  | .ok r ρ => lcT2 vs k0 me Q ρ r.bl?
  | _ => False
def WOE (o : Option Rho) (mt : ME) (K : ER → Prop) : Prop := ∃ ρ2, o = some ρ2 ∧ WE (mt ρ2) K
theorem woe_some : WOE (some ρ) mt K = WE (mt ρ) K := propext ⟨fun ⟨_, h, k⟩ => by cases h; exact k, fun h => ⟨_, rfl, h⟩⟩
theorem kl_T {Q : Rho → Prop} : WE (.ok r ρ) (kLcT vs k0 me Q) = lcT2 vs k0 me Q ρ r.bl? := nr rfl
theorem kl_t {Q : Rho → Prop} : lcT2 vs k0 me Q ρ (some true) = WE (me ρ) (kLcI vs k0 Q) := nr rfl
theorem kl_f {Q : Rho → Prop} : lcT2 vs k0 me Q ρ (some false) = lcI2 Q (wipeO vs ρ) := nr rfl
theorem kl_I {Q : Rho → Prop} : WE (.ok r ρ) (kLcI vs k0 Q) = lcI1 vs Q (store ρ (.bo k0 []) r putApp) := nr rfl
theorem kl_1 {Q : Rho → Prop} : lcI1 vs Q (some ρ) = lcI2 Q (wipeO vs ρ) := nr rfl
theorem kl_2 {Q : Rho → Prop} : lcI2 Q (some ρ) = Q ρ := nr rfl
theorem lcM_ok (P : Nat → Rho → Prop) (h0 : P 0 ρ)
    (hs : ∀ (n : Nat) (d : Py) (ρ' : Rho), items[n]? = some d → P n ρ' → WOE (mg (.im d.unfz) ρ') mt (kLcT vs k0 me (P (n + 1)))) : ∃ ρe, lcM vs k0 mg mt me items ρ = some ρe ∧ P items.length ρe := by
  have go : ∀ (k : List Py) (n : Nat) (ρ' : Rho), items.drop n = k → n ≤ items.length → P n ρ' → ∃ ρe, lcM vs k0 mg mt me k ρ' = some ρe ∧ P items.length ρe := by
    intro k
    induction k with
    | nil =>
      intro n ρ' hk hn hp
      have : items.length ≤ n := List.drop_eq_nil_iff.mp hk
      have e : n = items.length := by omega
      subst e
      exact ⟨ρ', rfl, hp⟩
    | cons d k ih =>
      intro n ρ' hk hn hp
      have hd : items[n]? = some d := by
        have := congrArg (fun z => z[0]?) hk
        simpa using this
      obtain ⟨ρ2, e2, w⟩ := hs n d ρ' hd hp
      have hl : n < items.length := (List.getElem?_eq_some_iff.mp hd).1
      have hk2 : items.drop (n + 1) = k := by
        have := congrArg (fun z => z.drop 1) hk
        simpa using this
      rw [lcM]
      simp only [e2]
      unfold WE at w
      cases ht : mt ρ2 with
      | st => rw [ht] at w; exact w.elim
      | ex c w' ρ3 => rw [ht] at w; exact w.elim
      | ok b ρ3 =>
        rw [ht] at w
        have w : lcT2 vs k0 me (P (n + 1)) ρ3 b.bl? := w
        cases hb : b.bl? with
        | none => rw [hb] at w; exact w.elim
        | some t =>
          rw [hb] at w
          cases t with
          | false =>
            have w : lcI2 (P (n + 1)) (wipeO vs ρ3) := w
            cases hw : wipeO vs ρ3 with
            | none => rw [hw] at w; exact w.elim
            | some ρ4 => rw [hw] at w; simp only [hb, hw, wipe1]; exact ih (n + 1) ρ4 hk2 hl w
          | true =>
            have w : WE (me ρ3) (kLcI vs k0 (P (n + 1))) := w
            unfold WE at w
            cases hm : me ρ3 with
            | st => rw [hm] at w; exact w.elim
            | ex c w' ρ4 => rw [hm] at w; exact w.elim
            | ok r ρ4 =>
              rw [hm] at w
              have w : lcI1 vs (P (n + 1)) (store ρ4 (.bo k0 []) r putApp) := w
              cases hst : store ρ4 (.bo k0 []) r putApp with
              | none => rw [hst] at w; exact w.elim
              | some ρ5 =>
                rw [hst] at w
                have w : lcI2 (P (n + 1)) (wipeO vs ρ5) := w
                cases hw : wipeO vs ρ5 with
                | none => rw [hw] at w; exact w.elim
                | some ρ6 => rw [hw] at w; simp only [hb, hm, hst, hw, wipe1]; exact ih (n + 1) ρ6 hk2 hl w
  exact go items 0 ρ (by simp) (Nat.zero_le _) h0
theorem lc2_some : mLc2 vs mg mt me items k0 (some ρ) = mLc3 vs k0 (lcM vs k0 mg mt me items (ρ ++ [.ow false (.lst [])])) := nr rfl
theorem lc3_some : mLc3 vs k0 (some ρ) = mLc4 vs (ρ.front k0) (popR ρ k0) := nr rfl
theorem lc4_some : mLc4 vs ρ (some (.fr d)) = mLc5 d (wipeO vs ρ) := nr rfl
theorem lc5_some : mLc5 d (some ρ) = .ok (.fr d) ρ := nr rfl
/-- a comprehension by what holds ahead of each turn; the list that grows is the last slot -/
theorem wc_lc (P : Nat → Rho → Prop) (h0 : P 0 (ρ ++ [.ow false (.lst [])]))
    (hs : ∀ (n : Nat) (d : Py) (ρ' : Rho), items[n]? = some d → P n ρ' → WOE (mg (.im d.unfz) ρ') mt (kLcT vs k0 me (P (n + 1))))
    (he : ∀ ρ', P items.length ρ' → WE (mLc3 vs k0 (some ρ')) K) : WE (mLc2 vs mg mt me items k0 (some ρ)) K := by
  obtain ⟨ρe, e, h⟩ := lcM_ok P h0 hs
  rw [lc2_some, e]
  exact he ρe h
/-- .. that changes no slot; some items are left out -/
theorem wc_lcf (G : Py → Option Py)
    (hs : ∀ (n : Nat) (d : Py) (acc : List Py), items[n]? = some d → acc.length ≤ n → WOE (mg (.im d.unfz) (ρ ++ [.ow false (.lst acc)])) mt (kLcT vs k0 me (fun ρ' => ρ' = ρ ++ [.ow false (.lst (acc ++ (G d).toList))])))
    (he : WE (mLc3 vs k0 (some (ρ ++ [.ow false (.lst (items.filterMap G))]))) K) : WE (mLc2 vs mg mt me items k0 (some ρ)) K := by
  refine wc_lc (fun n ρ' => ρ' = ρ ++ [.ow false (.lst ((items.take n).filterMap G))]) (by rw [List.take_zero]; rfl) ?_ ?_
  · rintro n d ρ' hd rfl
    have q := hs n d ((items.take n).filterMap G) hd (Nat.le_trans (List.length_filterMap_le _ _) (by rw [List.length_take]; omega))
    have e : (items.take (n + 1)).filterMap G = (items.take n).filterMap G ++ (G d).toList := by
      rw [List.take_succ, hd, List.filterMap_append]
      congr 1
    rw [e]
    exact q
  · rintro ρ' rfl
    rw [List.take_length]
    exact he
/-- .. of each item one -/
theorem wc_lcm (G : Py → Py)
    (hs : ∀ (n : Nat) (d : Py) (acc : List Py), items[n]? = some d → acc.length ≤ n → WOE (mg (.im d.unfz) (ρ ++ [.ow false (.lst acc)])) mt (kLcT vs k0 me (fun ρ' => ρ' = ρ ++ [.ow false (.lst (acc ++ [G d]))])))
    (he : WE (mLc3 vs k0 (some (ρ ++ [.ow false (.lst (items.map G))]))) K) : WE (mLc2 vs mg mt me items k0 (some ρ)) K :=
  wc_lcf (fun d => some (G d)) hs (by rw [show items.filterMap (fun d => some (G d)) = items.map G from by rw [← List.filterMap_eq_map]; rfl]; exact he)
/-! ### two clauses -/
def kLcJ (vs vs1 : List Nat) (k0 : Nat) (mg1 : MG) (mt1 me : ME) (Q : Rho → Prop) : IR → Prop
  | .ok items1 ρ => ∃ ρ1 ρ2, wipeO vs1 ρ = some ρ1 ∧ lcM vs1 k0 mg1 mt1 me items1 ρ1 = some ρ2 ∧ lcI2 Q (wipeO vs ρ2)
  | _ => False
def lcU2 (vs vs1 : List Nat) (k0 : Nat) (mi1 : MI) (mg1 : MG) (mt1 me : ME) (Q : Rho → Prop) [Tg Q] (ρ : Rho) : Option Bool → Prop
  | some true => WI (mi1 ρ) (kLcJ vs vs1 k0 mg1 mt1 me Q)
  | some false => lcI2 Q (wipeO vs ρ)
  | none => False
def kLcU (vs vs1 : List Nat) (k0 : Nat) (mi1 : MI) (mg1 : MG) (mt1 me : ME) (Q : Rho → Prop) : ER → Prop
  | .ok r ρ => lcU2 vs vs1 k0 mi1 mg1 mt1 me Q ρ r.bl?
  | _ => False
theorem ku_T {Q : Rho → Prop} : WE (.ok r ρ) (kLcU vs vs1 k0 mi1 mg1 mt1 me Q) = lcU2 vs vs1 k0 mi1 mg1 mt1 me Q ρ r.bl? := nr rfl
theorem ku_t {Q : Rho → Prop} : lcU2 vs vs1 k0 mi1 mg1 mt1 me Q ρ (some true) = WI (mi1 ρ) (kLcJ vs vs1 k0 mg1 mt1 me Q) := nr rfl
theorem ku_f {Q : Rho → Prop} : lcU2 vs vs1 k0 mi1 mg1 mt1 me Q ρ (some false) = lcI2 Q (wipeO vs ρ) := nr rfl
theorem lcB2_some : mLcB2 vs vs1 mg mt mi1 mg1 mt1 me items k0 (some ρ) = mLc3 vs k0 (lcM2 vs vs1 k0 mg mt mi1 mg1 mt1 me items (ρ ++ [.ow false (.lst [])])) := nr rfl
theorem lcM2_ok (P : Nat → Rho → Prop) (h0 : P 0 ρ)
    (hs : ∀ (n : Nat) (d : Py) (ρ' : Rho), items[n]? = some d → P n ρ' → WOE (mg (.im d.unfz) ρ') mt (kLcU vs vs1 k0 mi1 mg1 mt1 me (P (n + 1)))) : ∃ ρe, lcM2 vs vs1 k0 mg mt mi1 mg1 mt1 me items ρ = some ρe ∧ P items.length ρe := by
  have go : ∀ (k : List Py) (n : Nat) (ρ' : Rho), items.drop n = k → n ≤ items.length → P n ρ' → ∃ ρe, lcM2 vs vs1 k0 mg mt mi1 mg1 mt1 me k ρ' = some ρe ∧ P items.length ρe := by
    intro k
    induction k with
    | nil =>
      intro n ρ' hk hn hp
      have : items.length ≤ n := List.drop_eq_nil_iff.mp hk
      have e : n = items.length := by omega
      subst e
      exact ⟨ρ', rfl, hp⟩
    | cons d k ih =>
      intro n ρ' hk hn hp
      have hd : items[n]? = some d := by
        have := congrArg (fun z => z[0]?) hk
        simpa using this
      obtain ⟨ρ2, e2, w⟩ := hs n d ρ' hd hp
      have hl : n < items.length := (List.getElem?_eq_some_iff.mp hd).1
      have hk2 : items.drop (n + 1) = k := by
        have := congrArg (fun z => z.drop 1) hk
        simpa using this
      rw [lcM2]
      simp only [e2]
      unfold WE at w
      cases ht : mt ρ2 with
      | st => rw [ht] at w; exact w.elim
      | ex c w' ρ3 => rw [ht] at w; exact w.elim
      | ok b ρ3 =>
        rw [ht] at w
        have w : lcU2 vs vs1 k0 mi1 mg1 mt1 me (P (n + 1)) ρ3 b.bl? := w
        cases hb : b.bl? with
        | none => rw [hb] at w; exact w.elim
        | some t =>
          rw [hb] at w
          cases t with
          | false =>
            have w : lcI2 (P (n + 1)) (wipeO vs ρ3) := w
            cases hw : wipeO vs ρ3 with
            | none => rw [hw] at w; exact w.elim
            | some ρ4 => rw [hw] at w; simp only [hb, hw, wipe1]; exact ih (n + 1) ρ4 hk2 hl w
          | true =>
            have w : WI (mi1 ρ3) (kLcJ vs vs1 k0 mg1 mt1 me (P (n + 1))) := w
            unfold WI at w
            cases hm : mi1 ρ3 with
            | st => rw [hm] at w; exact w.elim
            | ex c w' ρ4 => rw [hm] at w; exact w.elim
            | ok its ρ4 =>
              rw [hm] at w
              obtain ⟨ρ5, ρ6, w1, w2, w3⟩ := w
              cases hw : wipeO vs ρ6 with
              | none => rw [hw] at w3; exact w3.elim
              | some ρ7 =>
                rw [hw] at w3
                simp only [hb, hm, lcB, w1, w2, hw, wipe1]
                exact ih (n + 1) ρ7 hk2 hl w3
  exact go items 0 ρ (by simp) (Nat.zero_le _) h0
theorem wm_lcB {MI' : MI} : WE (mLcB vs vs1 MI' mg mt mi1 mg1 mt1 me ρ) K = WI (MI' ρ) (fun x => K (mLcB1 vs vs1 mg mt mi1 mg1 mt1 me x)) := nr rfl
def kLcB (vs vs1 : List Nat) (mg : MG) (mt : ME) (mi1 : MI) (mg1 : MG) (mt1 me : ME) (K : ER → Prop) : IR → Prop := fun x => K (mLcB1 vs vs1 mg mt mi1 mg1 mt1 me x)
theorem wm_lcB' {MI' : MI} : WE (mLcB vs vs1 MI' mg mt mi1 mg1 mt1 me ρ) K = WI (MI' ρ) (kLcB vs vs1 mg mt mi1 mg1 mt1 me K) := nr rfl
theorem wlcB_ok : WI (.ok items ρ) (kLcB vs vs1 mg mt mi1 mg1 mt1 me K) = WE (mLcB2 vs vs1 mg mt mi1 mg1 mt1 me items ρ.length (wipeO vs ρ)) K := nr rfl
/-- two clauses that change no slot -/
theorem wc_lc2 (G : Py → List Py) (M : Nat) (hM : ∀ d ∈ items, (G d).length ≤ M)
    (hs : ∀ (n : Nat) (d : Py) (acc : List Py), items[n]? = some d → acc.length ≤ n * M → WOE (mg (.im d.unfz) (ρ ++ [.ow false (.lst acc)])) mt (kLcU vs vs1 k0 mi1 mg1 mt1 me (fun ρ' => ρ' = ρ ++ [.ow false (.lst (acc ++ G d))])))
    (he : WE (mLc3 vs k0 (some (ρ ++ [.ow false (.lst (items.map G).flatten)]))) K) : WE (mLcB2 vs vs1 mg mt mi1 mg1 mt1 me items k0 (some ρ)) K := by
  have bound : ∀ k : List Py, (∀ d ∈ k, (G d).length ≤ M) → (k.map G).flatten.length ≤ k.length * M := by
    intro k
    induction k with
    | nil => intro _; simp
    | cons x k ih =>
      intro h
      have h1 := h x List.mem_cons_self
      have h2 := ih fun d hd => h d (List.mem_cons_of_mem _ hd)
      rw [List.map_cons, List.flatten_cons, List.length_append, List.length_cons, Nat.add_mul]
      omega
  obtain ⟨ρe, e, h⟩ := lcM2_ok (vs := vs) (vs1 := vs1) (k0 := k0) (mg := mg) (mt := mt) (mi1 := mi1) (mg1 := mg1) (mt1 := mt1) (me := me) (items := items) (ρ := ρ ++ [.ow false (.lst [])]) (fun n ρ' => ρ' = ρ ++ [.ow false (.lst ((items.take n).map G).flatten)]) (by rw [List.take_zero]; rfl) (by
    rintro n d ρ' hd rfl
    have q := hs n d ((items.take n).map G).flatten hd (Nat.le_trans (bound _ fun d hd => hM d (List.mem_of_mem_take hd)) (Nat.mul_le_mul_right _ (by rw [List.length_take]; omega)))
    have e : ((items.take (n + 1)).map G).flatten = ((items.take n).map G).flatten ++ G d := by
      rw [List.take_succ, hd, List.map_append, List.flatten_append]
      simp
    rw [e]
    exact q)
  rw [lcB2_some, e, h, List.take_length]
  exact he
/-- the inner clause, over its items -/
theorem ku_J {Q : Rho → Prop} (g : Py → Py) {acc : List Py} (hw : wipeO vs1 ρ1 = some (ρ2 ++ [.ow false (.lst acc)]))
    (hs : ∀ (n : Nat) (d : Py) (ac : List Py), items[n]? = some d → ac.length ≤ acc.length + n → WOE (mg1 (.im d.unfz) (ρ2 ++ [.ow false (.lst ac)])) mt1 (kLcT vs1 k0 me (fun ρ' => ρ' = ρ2 ++ [.ow false (.lst (ac ++ [g d]))])))
    (he : lcI2 Q (wipeO vs (ρ2 ++ [.ow false (.lst (acc ++ items.map g))]))) : WI (.ok items ρ1) (kLcJ vs vs1 k0 mg1 mt1 me Q) := by
  obtain ⟨ρe, e, h⟩ := lcM_ok (vs := vs1) (k0 := k0) (mg := mg1) (mt := mt1) (me := me) (items := items) (ρ := ρ2 ++ [.ow false (.lst acc)]) (fun n ρ' => ρ' = ρ2 ++ [.ow false (.lst (acc ++ (items.take n).map g))]) (by rw [List.take_zero, List.map_nil, List.append_nil]) (by
    rintro n d ρ' hd rfl
    have q := hs n d (acc ++ (items.take n).map g) hd (by rw [List.length_append, List.length_map, List.length_take]; omega)
    have e : acc ++ (items.take (n + 1)).map g = (acc ++ (items.take n).map g) ++ [g d] := by
      rw [List.take_succ, hd, List.map_append, List.append_assoc]; rfl
    rw [e]
    exact q)
  exact ⟨_, ρe, hw, e, by rw [h, List.take_length]; exact he⟩
end
end Mr
/-! Dp: values -/
namespace Mr
open PySem L2
section
variable {ρ ρ1 ρ2 : Rho} {f g : Py → Py → OV} {ma mb mc : ME} {a b : MS} {i j n m : Nat} {r s : Rv} {d e : Py} {io : Bool} {K : ER → Prop} {KS : SR → Prop}
/-! ### tests -/
theorem bl_im {x : Bool} : (Rv.im (.bl x)).bl? = some x := nr rfl
theorem bR_some {x : Bool} : bR ρ (some x) = .ok (.im (.bl x)) ρ := nr rfl
theorem tru1_some : tru1 ρ (some d) = bR ρ (pyTruth d) := nr rfl
theorem tru_bl {x : Bool} : pyTruth (.bl x) = some x := nr rfl
theorem tru_int {x : Int} : pyTruth (.int x) = some (x != 0) := nr rfl
theorem int_im {x : Int} : (Rv.im (.int x)).int? = some x := nr rfl
theorem intR_some {x : Int} : intR ρ (some x) = .ok (.im (.int x)) ρ := nr rfl
def slP2 (k : Rv → Option Int → Rho → ER) (r : Rv) (ρ : Rho) : Option (Option Int) → ER
  | some o => k r o ρ
  | none => .st
theorem ev_slP {ml : ME} {k : Rv → Option Int → Rho → ER} : slP ml r ρ k = pend r ml ρ fun r l ρ2 => slP2 k r ρ2 (partOf l) := by
  unfold slP
  congr 1
theorem slP2_some {k : Rv → Option Int → Rho → ER} {o : Option Int} : slP2 k r ρ (some o) = k r o ρ := nr rfl
theorem part_non : partOf (.im .non) = some none := nr rfl
theorem part_int {x : Int} : partOf (.im (.int x)) = some (some x) := nr rfl
theorem ch2_some {f g : Py → Py → OV} : ch2 f g mc r ρ (some d) (some e) = ch3 mc g r ρ (f d e).bool := nr rfl
theorem ovb {x : Bool} : (OV.im (.bl x)).bool = some x := nr rfl
def ch4 (mc : ME) (g : Py → Py → OV) (y : Rv) (ρ : Rho) (x : Bool) : ER := ch3 mc g y ρ (some x)
theorem ch3_b {x : Bool} : WE (ch3 mc g r ρ (some x)) K = WE (ifE (fun ρ => pend r mc ρ fun y z ρ3 => op2 g ρ3 (datR ρ3 y) (datR ρ3 z)) (mC (.bl false)) ρ (some x)) K := by cases x <;> rfl
theorem ap_fun {m : Rho → ER} : WE ((fun ρ => m ρ) ρ) K = WE (m ρ) K := nr rfl
/-! ### targets -/
theorem gN_eq : gN i r ρ = setRv i r ρ := nr rfl
theorem gT_eq {gs : MGs} : gT n gs r ρ = gT2 n gs (unTup ρ r) := nr rfl
theorem unT_im {l : List Py} : unTup ρ (.im (.tup l)) = some (l.map fun k => .im k.unfz, ρ) := nr rfl
theorem unT_fr {l : List Py} : unTup ρ (.fr (.tup l)) = some (l.map kid1, ρ) := nr rfl
theorem gT2_some {gs : MGs} {rs : List Rv} : gT2 n gs (some (rs, ρ)) = if rs.length = n then gs rs ρ else none := nr rfl
theorem gs0_eq : gs0 [] ρ = some ρ := nr rfl
theorem gs1_eq {g : MG} {gs : MGs} {rs : List Rv} : gs1 g gs (r :: rs) ρ = gs2 gs rs (g r ρ) := nr rfl
theorem gs2_some {gs : MGs} {rs : List Rv} : gs2 gs rs (some ρ) = gs rs ρ := nr rfl
/-! ### a def's run -/
theorem wx_seq {c : Nat} {w : Py} : WS (.ex c w ρ) (kSq b KS) = WS (.ex c w ρ) KS := nr rfl
theorem retR_im {as : List Sl} : retR as ρ (.im d) = .ok (.im d) (outsOf as ρ) := nr rfl
theorem retR_fr {as : List Sl} : retR as ρ (.fr d) = .ok (.fr d) (outsOf as ρ) := nr rfl
theorem retR_bo {as : List Sl} {π : List Nat} : retR as ρ (.bo i π) = retB as ρ i π ρ[i]? := nr rfl
theorem retB_im {as : List Sl} : retB as ρ i [] (some (.im io d)) = .ok (.im d) (outsOf as ρ) := nr rfl
def ret3 (as : List Sl) (ρ : Rho) (d : Py) : Bool → DR
  | true => .ok (.fr d) (outsOf as ρ)
  | false => .st
theorem retB_ow {as : List Sl} : retB as ρ i [] (some (.ow false d)) = ret3 as ρ d d.mut := by
  show (if d.mut = true then DR.ok (.fr d) (outsOf as ρ) else .st) = _
  cases d.mut <;> rfl
theorem ret3_t {as : List Sl} : ret3 as ρ d true = .ok (.fr d) (outsOf as ρ) := nr rfl
theorem outs_nil : outsOf [] ρ = [] := nr rfl
theorem outs_im {as : List Sl} {s : Sl} : outsOf (.im false d :: as) (s :: ρ) = .no :: outsOf as ρ := nr rfl
theorem outs_ow {as : List Sl} {s : Sl} : outsOf (.ow false d :: as) (s :: ρ) = .no :: outsOf as ρ := nr rfl
theorem outs_owt {as : List Sl} {s : Sl} : outsOf (.ow true d :: as) (s :: ρ) = s :: outsOf as ρ := nr rfl
theorem outs_imt {as : List Sl} {s : Sl} : outsOf (.im true d :: as) (s :: ρ) = s :: outsOf as ρ := nr rfl
/-! ### loops -/
theorem kt_nx {Q : Rho → Prop} : WS (.nx ρ) (kTurn Q KS) = Q ρ := nr rfl
theorem kt_ct {Q : Rho → Prop} : WS (.ct ρ) (kTurn Q KS) = Q ρ := nr rfl
theorem kt_bk {Q : Rho → Prop} : WS (.bk ρ) (kTurn Q KS) = WS (.nx ρ) KS := nr rfl
theorem kt_rt {Q : Rho → Prop} : WS (.rt r ρ) (kTurn Q KS) = WS (.rt r ρ) KS := nr rfl
theorem kt_ex {Q : Rho → Prop} {c : Nat} {w : Py} : WS (.ex c w ρ) (kTurn Q KS) = WS (.ex c w ρ) KS := nr rfl
theorem kj_nx {Q : Rho → Prop} : WS (.nx ρ) (kJoin Q KS) = Q ρ := nr rfl
theorem kj_ct {Q : Rho → Prop} : WS (.ct ρ) (kJoin Q KS) = WS (.ct ρ) KS := nr rfl
theorem kj_bk {Q : Rho → Prop} : WS (.bk ρ) (kJoin Q KS) = WS (.bk ρ) KS := nr rfl
theorem kj_rt {Q : Rho → Prop} : WS (.rt r ρ) (kJoin Q KS) = WS (.rt r ρ) KS := nr rfl
theorem kj_ex {Q : Rho → Prop} {c : Nat} {w : Py} : WS (.ex c w ρ) (kJoin Q KS) = WS (.ex c w ρ) KS := nr rfl
theorem wt_fz {me : ME} : WS (mDrop (mFz me) ρ) KS = WE (mFz me ρ) (kT (fun _ ρ1 => .nx ρ1) KS) := nr rfl
theorem iAny1_some {items : Py} : iAny1 (some (items, ρ)) = iAny2 ρ (itemsOf items) := nr rfl
theorem iAny2_some {items : List Py} : iAny2 ρ (some items) = .ok items ρ := nr rfl
theorem iOf1_some {F : List Py → Option (List Py)} {ds : List Py} : iOf1 F (some (ds, ρ)) = iOf2 ρ (F ds) := nr rfl
theorem iOf2_some {ds : List Py} : iOf2 ρ (some ds) = .ok ds ρ := nr rfl
theorem io_L {l : List Py} : itemsOf (.lst l) = some l := nr rfl
theorem io_T {l : List Py} : itemsOf (.tup l) = some l := nr rfl
theorem io_S {l : List Py} : itemsOf (.scr l) = some l := nr rfl
theorem fe_L {l : List Py} : fEnum [.lst l] = some (enumL 0 l) := nr rfl
theorem fe_T {l : List Py} : fEnum [.tup l] = some (enumL 0 l) := nr rfl
theorem fe_S {l : List Py} : fEnum [.scr l] = some (enumL 0 l) := nr rfl
theorem fr_1 {n : Int} (h : -4611686018427387904 ≤ n ∧ n < 4611686018427387904) : fRange1 [.int n] = some (rangeL 0 n.toNat) := if_pos (by unfold cRg; simp only [Bool.and_eq_true, decide_eq_true_eq]; omega)
theorem fr_2 {m n : Int} (h : -4611686018427387904 ≤ m ∧ m < 4611686018427387904) (h2 : -4611686018427387904 ≤ n ∧ n < 4611686018427387904) : fRange2 [.int m, .int n] = some (rangeL m (n - m).toNat) := if_pos (by unfold cRg; simp only [Bool.and_eq_true, decide_eq_true_eq]; omega)
theorem enum_at {n : Nat} {l : List Py} {i : Nat} {d : Py} (h : (enumL n l)[i]? = some d) : ∃ e, l[i]? = some e ∧ d = .tup [.int ((n + i : Nat) : Int), e] := enumL_get n l i d h
theorem raise1_some {c : Nat} : raise1 c (some (d, ρ)) = .ex c d ρ := nr rfl
end
/-! ### values -/
section
variable {m n : Int} {l k : List Py} {x y : Bool} {d e : Py}
theorem v_add : pyAdd (.int m) (.int n) = .im (.int (m + n)) := nr rfl
theorem v_addT (h : l.length + k.length ≤ 16777216) : pyAdd (.tup l) (.tup k) = .im (.tup (l ++ k)) := if_pos h
theorem v_addL (h : l.length + k.length ≤ 16777216) : pyAdd (.lst l) (.lst k) = .fr (.lst (l ++ k)) := if_pos h
theorem v_addZ {x y : Str} (h : x.length + y.length ≤ 16777216) : pyAdd (.str x) (.str y) = .im (.str (x ++ y)) := if_pos h
theorem v_addI : pyAddI (.int m) (.int n) = .im (.int (m + n)) := nr rfl
theorem v_sub : pySub (.int m) (.int n) = .im (.int (m - n)) := nr rfl
theorem v_mul (h : cMul m n = true) : pyMul (.int m) (.int n) = .im (.int (m * n)) := if_pos h
theorem v_mulI (h : cMul m n = true) : pyMulI (.int m) (.int n) = .im (.int (m * n)) := if_pos h
theorem cMul_l (h1 : -(2 ^ 64) < m) (h2 : m < 2 ^ 64) : cMul m n = true := by
  unfold cMul; rw [decide_eq_true h1, decide_eq_true h2]; rfl
theorem cMul_r (h1 : -(2 ^ 64) < n) (h2 : n < 2 ^ 64) : cMul m n = true := by
  unfold cMul; rw [decide_eq_true h1, decide_eq_true h2, Bool.or_eq_true]; exact .inr rfl
theorem v_div (h1 : 0 < n) (h2 : n < 1073741824) : pyDiv (.int m) (.int n) = .im (.int (m / n)) := if_pos (by unfold cDiv; rw [decide_eq_true h1, decide_eq_true h2]; rfl)
theorem v_mod (h1 : 0 < n) : pyMod (.int m) (.int n) = .im (.int (m % n)) := if_pos (by unfold cMod; rw [decide_eq_true h1])
theorem v_neg : pyNeg (.int m) = .im (.int (-m)) := nr rfl
theorem v_lt : pyLt (.int m) (.int n) = .im (.bl (decide (m < n))) := nr rfl
theorem v_le : pyLe (.int m) (.int n) = .im (.bl (decide (m ≤ n))) := nr rfl
theorem v_gt : pyGt (.int m) (.int n) = .im (.bl (decide (n < m))) := nr rfl
theorem v_ge : pyGe (.int m) (.int n) = .im (.bl (decide (n ≤ m))) := nr rfl
theorem v_isB : pyIs (.bl x) (.bl y) = .im (.bl (decide (x = y))) := nr rfl
theorem v_isNB : pyIsNot (.bl x) (.bl y) = .im (.bl (!decide (x = y))) := nr rfl
theorem v_isN : pyIs d .non = .im (.bl d.isNon) := by cases d <;> rfl
theorem v_isNN : pyIsNot d .non = .im (.bl (!d.isNon)) := by cases d <;> rfl
theorem nn_int : Py.isNon (.int m) = false := nr rfl
theorem nn_non : Py.isNon .non = true := nr rfl
theorem nn_tup : Py.isNon (.tup l) = false := nr rfl
theorem nn_lst : Py.isNon (.lst l) = false := nr rfl
theorem nn_str {z : Str} : Py.isNon (.str z) = false := nr rfl
theorem v_lenL : pyLenD (.lst l) = .im (.int l.length) := nr rfl
theorem v_lenT : pyLenD (.tup l) = .im (.int l.length) := nr rfl
theorem v_lenS : pyLenD (.scr l) = .im (.int l.length) := nr rfl
theorem v_lenD {lk : Bool} {ks : List Key} : pyLenD (.dic lk ks l) = .im (.int ks.length) := nr rfl
theorem v_tupL : pyTuple (.lst l) = .im (.tup l) := nr rfl
theorem v_tupT : pyTuple (.tup l) = .im (.tup l) := nr rfl
theorem v_lstL : pyList (.lst l) = .fr (.lst l) := nr rfl
theorem v_lstT : pyList (.tup l) = .fr (.lst l) := nr rfl
theorem v_int : pyToInt (.int m) = .im (.int m) := nr rfl
theorem v_intB : pyToInt (.bl x) = .im (.int (if x then 1 else 0)) := nr rfl
theorem v_i2 {g : Int → Int → Int} : pyI2 g (.int m) (.int n) = .im (.int (g m n)) := nr rfl
theorem v_slL {lo hi : Option Int} : pySl (.lst l) lo hi = .fr (.lst (cutA l lo hi)) := nr rfl
theorem v_slT {lo hi : Option Int} : pySl (.tup l) lo hi = .im (.tup (cutA l lo hi)) := nr rfl
theorem v_mulL {m n : Int} (h : -18446744073709551616 < m ∧ m < 18446744073709551616) : pyMul (.int m) (.int n) = .im (.int (m * n)) := v_mul (cMul_l h.1 h.2)
theorem v_mulR {m n : Int} (h : -18446744073709551616 < n ∧ n < 18446744073709551616) : pyMul (.int m) (.int n) = .im (.int (m * n)) := v_mul (cMul_r h.1 h.2)
theorem v_mulB {m : Int} {x : Bool} : pyMul (.int m) (.int (if x = true then 1 else 0)) = .im (.int (m * if x = true then 1 else 0)) := by
  cases x
  · exact v_mulR ⟨by decide, by decide⟩
  · exact v_mulR ⟨by decide, by decide⟩
theorem v_pow18 : pyPow (.int 10) (.int 18) = .im (.int 1000000000000000000) := by
  show (if cPow 10 18 = true then OV.im (.int (10 ^ (18 : Int).toNat)) else .st) = _
  rw [if_pos (by decide +kernel), show (10 : Int) ^ (18 : Int).toNat = 1000000000000000000 by decide +kernel]
theorem v_rep {k : List Py} (h : 0 ≤ m ∧ m < 1000000 ∧ k.length * m.toNat ≤ 16777216) : pyMul (.lst k) (.int m) = .fr (.lst (List.replicate m.toNat k).flatten) := if_pos ⟨by omega, by omega, h.2.2⟩
/-! ### rows of numbers -/
abbrev iL (ns : List Int) : List Py := ns.map Py.int
theorem iL_get {ns : List Int} {i : Nat} {d : Py} (h : (iL ns)[i]? = some d) : ∃ n, ns[i]? = some n ∧ d = .int n := by
  rw [List.getElem?_map] at h
  cases e : ns[i]? with
  | none => rw [e] at h; cases h
  | some n => rw [e] at h; exact ⟨n, rfl, (Option.some.inj h).symm⟩
theorem iL_len {ns : List Int} : (iL ns).length = ns.length := List.length_map ..
theorem iL_app {ns ms : List Int} : iL ns ++ iL ms = iL (ns ++ ms) := List.map_append.symm
theorem iL_cons {n : Int} {ns : List Int} : Py.int n :: iL ns = iL (n :: ns) := nr rfl
theorem iL_nil : ([] : List Py) = iL [] := nr rfl
theorem iL_set {ns : List Int} {i : Nat} {n : Int} : (iL ns).set i (.int n) = iL (ns.set i n) := List.map_set.symm
theorem iL_at {ns : List Int} {i : Nat} : (iL ns)[i]? = ns[i]?.map Py.int := List.getElem?_map ..
theorem at_iL {ns : List Int} {i : Nat} {n : Int} (h : ns[i]? = some n) : (iL ns)[i]? = some (.int n) := by rw [iL_at, h]; rfl
theorem sum_iL : ∀ ns : List Int, intsOf (iL ns) = some ns
  | [] => rfl
  | n :: ns => by
    show (intsOf (iL ns)).map (n :: ·) = some (n :: ns)
    rw [sum_iL ns]; rfl
end
/-! ### equality of data without bools -/
mutual
/-- none, ints, texts, and sequences of such -/
def Py.eqd : Py → Bool
  | .non => true
  | .int _ => true
  | .str x => PyData.strOk x
  | .tup l => Py.eqdL l
  | .lst l => Py.eqdL l
  | _ => false
def Py.eqdL : List Py → Bool
  | [] => true
  | d :: l => d.eqd && Py.eqdL l
end
mutual
def Py.dep : Py → Nat
  | .tup l => Py.depL l + 1
  | .lst l => Py.depL l + 1
  | _ => 0
def Py.depL : List Py → Nat
  | [] => 0
  | d :: l => max d.dep (Py.depL l)
end
mutual
theorem eqd_can : ∀ {d : Py}, d.eqd = true → PyData.canLay0 d.toD = true ∧ PyData.depth d.toD ≤ d.dep + 1
  | .non, _ => by simp [Py.toD, PyData.canLay0, PyData.depth]
  | .int _, _ => by simp [Py.toD, PyData.canLay0, PyData.depth]
  | .str x, h => by
    have h : PyData.strOk x = true := h
    simp [Py.toD, PyData.canLay0, PyData.depth, h]
  | .tup l, h => by
    obtain ⟨h1, h2⟩ := eqdL_can (l := l) h
    simp only [Py.toD, PyData.canLay0, PyData.depth, h1, Py.dep]
    exact ⟨trivial, by omega⟩
  | .lst l, h => by
    obtain ⟨h1, h2⟩ := eqdL_can (l := l) h
    simp only [Py.toD, PyData.canLay0, PyData.depth, h1, Py.dep]
    exact ⟨trivial, by omega⟩
  | .bl _, h => by cases h
  | .scr _, h => by cases h
  | .dic _ _ _, h => by cases h
  | .dit _ _ _, h => by cases h
  | .obj _ _ _, h => by cases h
  | .fz _, h => by cases h
theorem eqdL_can : ∀ {l : List Py}, Py.eqdL l = true → PyData.canLayAll0 (Py.toDs l) = true ∧ PyData.depthAll (Py.toDs l) ≤ Py.depL l + 1
  | [], _ => by simp [Py.toDs, PyData.canLayAll0, PyData.depthAll]
  | d :: l, h => by
    have h := Bool.and_eq_true_iff.mp (show (d.eqd && Py.eqdL l) = true from h)
    obtain ⟨h1, h2⟩ := eqd_can h.1
    obtain ⟨h3, h4⟩ := eqdL_can h.2
    simp only [Py.toDs, PyData.canLayAll0, PyData.depthAll, h1, h3, Py.depL]
    exact ⟨rfl, by omega⟩
end
mutual
theorem eqd_iff : ∀ {d e : Py}, d.eqd = true → e.eqd = true → (PyData.eqv d.toD e.toD = true ↔ d = e)
  | .non, .non, _, _ => by simp [Py.toD, PyData.eqv]
  | .non, .int _, _, _ => by simp [Py.toD, PyData.eqv]
  | .non, .str _, _, _ => by simp [Py.toD, PyData.eqv]
  | .non, .tup _, _, _ => by simp [Py.toD, PyData.eqv]
  | .non, .lst _, _, _ => by simp [Py.toD, PyData.eqv]
  | .int _, .non, _, _ => by simp [Py.toD, PyData.eqv]
  | .int _, .int _, _, _ => by simp [Py.toD, PyData.eqv]
  | .int _, .str _, _, _ => by simp [Py.toD, PyData.eqv]
  | .int _, .tup _, _, _ => by simp [Py.toD, PyData.eqv]
  | .int _, .lst _, _, _ => by simp [Py.toD, PyData.eqv]
  | .str _, .non, _, _ => by simp [Py.toD, PyData.eqv]
  | .str _, .int _, _, _ => by simp [Py.toD, PyData.eqv]
  | .str _, .str _, _, _ => by simp [Py.toD, PyData.eqv]
  | .str _, .tup _, _, _ => by simp [Py.toD, PyData.eqv]
  | .str _, .lst _, _, _ => by simp [Py.toD, PyData.eqv]
  | .tup _, .non, _, _ => by simp [Py.toD, PyData.eqv]
  | .tup _, .int _, _, _ => by simp [Py.toD, PyData.eqv]
  | .tup _, .str _, _, _ => by simp [Py.toD, PyData.eqv]
  | .tup l, .tup k, h, h' => by simp only [Py.toD, PyData.eqv, Py.tup.injEq]; exact eqdL_iff (l := l) (k := k) h h'
  | .tup _, .lst _, _, _ => by simp [Py.toD, PyData.eqv]
  | .lst _, .non, _, _ => by simp [Py.toD, PyData.eqv]
  | .lst _, .int _, _, _ => by simp [Py.toD, PyData.eqv]
  | .lst _, .str _, _, _ => by simp [Py.toD, PyData.eqv]
  | .lst _, .tup _, _, _ => by simp [Py.toD, PyData.eqv]
  | .lst l, .lst k, h, h' => by simp only [Py.toD, PyData.eqv, Py.lst.injEq]; exact eqdL_iff (l := l) (k := k) h h'
  | .bl _, _, h, _ => by cases h
  | .scr _, _, h, _ => by cases h
  | .dic _ _ _, _, h, _ => by cases h
  | .dit _ _ _, _, h, _ => by cases h
  | .obj _ _ _, _, h, _ => by cases h
  | .fz _, _, h, _ => by cases h
  | .non, .bl _, _, h => by cases h
  | .non, .scr _, _, h => by cases h
  | .non, .dic _ _ _, _, h => by cases h
  | .non, .dit _ _ _, _, h => by cases h
  | .non, .obj _ _ _, _, h => by cases h
  | .non, .fz _, _, h => by cases h
  | .int _, .bl _, _, h => by cases h
  | .int _, .scr _, _, h => by cases h
  | .int _, .dic _ _ _, _, h => by cases h
  | .int _, .dit _ _ _, _, h => by cases h
  | .int _, .obj _ _ _, _, h => by cases h
  | .int _, .fz _, _, h => by cases h
  | .str _, .bl _, _, h => by cases h
  | .str _, .scr _, _, h => by cases h
  | .str _, .dic _ _ _, _, h => by cases h
  | .str _, .dit _ _ _, _, h => by cases h
  | .str _, .obj _ _ _, _, h => by cases h
  | .str _, .fz _, _, h => by cases h
  | .tup _, .bl _, _, h => by cases h
  | .tup _, .scr _, _, h => by cases h
  | .tup _, .dic _ _ _, _, h => by cases h
  | .tup _, .dit _ _ _, _, h => by cases h
  | .tup _, .obj _ _ _, _, h => by cases h
  | .tup _, .fz _, _, h => by cases h
  | .lst _, .bl _, _, h => by cases h
  | .lst _, .scr _, _, h => by cases h
  | .lst _, .dic _ _ _, _, h => by cases h
  | .lst _, .dit _ _ _, _, h => by cases h
  | .lst _, .obj _ _ _, _, h => by cases h
  | .lst _, .fz _, _, h => by cases h
theorem eqdL_iff : ∀ {l k : List Py}, Py.eqdL l = true → Py.eqdL k = true → (PyData.eqvAll (Py.toDs l) (Py.toDs k) = true ↔ l = k)
  | [], [], _, _ => by simp [Py.toDs, PyData.eqvAll]
  | [], _ :: _, _, _ => by simp [Py.toDs, PyData.eqvAll]
  | _ :: _, [], _, _ => by simp [Py.toDs, PyData.eqvAll]
  | d :: l, e :: k, h, h' => by
    have h := Bool.and_eq_true_iff.mp (show (d.eqd && Py.eqdL l) = true from h)
    have h' := Bool.and_eq_true_iff.mp (show (e.eqd && Py.eqdL k) = true from h')
    simp only [Py.toDs, PyData.eqvAll, Bool.and_eq_true, List.cons.injEq]
    rw [eqd_iff h.1 h'.1, eqdL_iff h.2 h'.2]
end
noncomputable instance : DecidableEq Py := fun a b => Classical.propDecidable (a = b)
theorem eqd_sh {d : Py} (h : d.eqd = true) (hd : d.dep ≤ 60) : SeqAt.shaped d.toD = true := by
  obtain ⟨h1, h2⟩ := eqd_can h
  unfold SeqAt.shaped
  rw [h1, Bool.true_and]
  exact decide_eq_true (by omega)
theorem v_eqd {d e : Py} (h1 : d.eqd = true) (h2 : e.eqd = true) (d1 : d.dep ≤ 60) (d2 : e.dep ≤ 60) : pyEq d e = .im (.bl (decide (d = e))) := by
  unfold pyEq
  rw [eqd_sh h1 d1, eqd_sh h2 d2, if_pos (by decide)]
  congr 2
  have q := eqd_iff h1 h2
  by_cases z : d = e
  · rw [decide_eq_true z]; exact q.mpr z
  · rw [decide_eq_false z]
    cases w : PyData.eqv d.toD e.toD with
    | false => rfl
    | true => exact absurd (q.mp w) z
theorem v_ned {d e : Py} (h1 : d.eqd = true) (h2 : e.eqd = true) (d1 : d.dep ≤ 60) (d2 : e.dep ≤ 60) : pyNe d e = .im (.bl (!decide (d = e))) := by
  have q := v_eqd h1 h2 d1 d2
  unfold pyEq at q
  unfold pyNe
  rw [eqd_sh h1 d1, eqd_sh h2 d2, if_pos (by decide)] at q ⊢
  injection q with q
  injection q with q
  rw [q]
theorem eqd_int {m : Int} : (Py.int m).eqd = true := nr rfl
theorem eqdL_all {l : List Py} (h : ∀ d ∈ l, d.eqd = true) : Py.eqdL l = true := by
  induction l with
  | nil => rfl
  | cons d l ih => exact Bool.and_eq_true_iff.mpr ⟨h d List.mem_cons_self, ih fun x hx => h x (List.mem_cons_of_mem _ hx)⟩
theorem depL_all {l : List Py} {k : Nat} (h : ∀ d ∈ l, d.dep ≤ k) : Py.depL l ≤ k := by
  induction l with
  | nil => exact Nat.zero_le _
  | cons d l ih => exact Nat.max_le.mpr ⟨h d List.mem_cons_self, ih fun x hx => h x (List.mem_cons_of_mem _ hx)⟩
theorem eqdL_iL (ns : List Int) : Py.eqdL (iL ns) = true := eqdL_all fun d hd => by
  obtain ⟨n, _, rfl⟩ := List.mem_map.mp hd; rfl
theorem depL_iL (ns : List Int) : Py.depL (iL ns) ≤ 0 := depL_all fun d hd => by
  obtain ⟨n, _, rfl⟩ := List.mem_map.mp hd; exact Nat.le_refl _
theorem v_eq {m n : Int} : pyEq (.int m) (.int n) = .im (.bl (decide (m = n))) := by
  rw [v_eqd rfl rfl (Nat.zero_le _) (Nat.zero_le _)]
  congr 2
  by_cases h : m = n
  · subst h; rw [decide_eq_true rfl, decide_eq_true rfl]
  · rw [decide_eq_false h, decide_eq_false fun z => h (by injection z)]
theorem v_ne {m n : Int} : pyNe (.int m) (.int n) = .im (.bl (!decide (m = n))) := by
  rw [v_ned rfl rfl (Nat.zero_le _) (Nat.zero_le _)]
  congr 3
  by_cases h : m = n
  · subst h; rw [decide_eq_true rfl, decide_eq_true rfl]
  · rw [decide_eq_false h, decide_eq_false fun z => h (by injection z)]
theorem iL_inj : ∀ {ns ms : List Int}, iL ns = iL ms → ns = ms
  | [], [], _ => rfl
  | [], _ :: _, h => by cases h
  | _ :: _, [], h => by cases h
  | n :: ns, m :: ms, h => by
    injection h with h1 h2
    injection h1 with h1
    rw [h1, iL_inj (ns := ns) (ms := ms) h2]
theorem v_eqL {ns ms : List Int} : pyEq (.lst (iL ns)) (.lst (iL ms)) = .im (.bl (decide (ns = ms))) := by
  have d := depL_iL ns
  have d' := depL_iL ms
  rw [v_eqd (d := .lst (iL ns)) (e := .lst (iL ms)) (eqdL_iL ns) (eqdL_iL ms) (by show Py.depL _ + 1 ≤ 60; omega) (by show Py.depL _ + 1 ≤ 60; omega)]
  congr 2
  by_cases h : ns = ms
  · subst h; rw [decide_eq_true rfl, decide_eq_true rfl]
  · rw [decide_eq_false h, decide_eq_false fun z => h (by injection z with z; exact iL_inj z)]
theorem v_eqT {ns ms : List Int} : pyEq (.tup (iL ns)) (.tup (iL ms)) = .im (.bl (decide (ns = ms))) := by
  have d := depL_iL ns
  have d' := depL_iL ms
  rw [v_eqd (d := .tup (iL ns)) (e := .tup (iL ms)) (eqdL_iL ns) (eqdL_iL ms) (by show Py.depL _ + 1 ≤ 60; omega) (by show Py.depL _ + 1 ≤ 60; omega)]
  congr 2
  by_cases h : ns = ms
  · subst h; rw [decide_eq_true rfl, decide_eq_true rfl]
  · rw [decide_eq_false h, decide_eq_false fun z => h (by injection z with z; exact iL_inj z)]
theorem v_neT {ns ms : List Int} : pyNe (.tup (iL ns)) (.tup (iL ms)) = .im (.bl (!decide (ns = ms))) := by
  have d := depL_iL ns
  have d' := depL_iL ms
  rw [v_ned (d := .tup (iL ns)) (e := .tup (iL ms)) (eqdL_iL ns) (eqdL_iL ms) (by show Py.depL _ + 1 ≤ 60; omega) (by show Py.depL _ + 1 ≤ 60; omega)]
  congr 3
  by_cases h : ns = ms
  · subst h; rw [decide_eq_true rfl, decide_eq_true rfl]
  · rw [decide_eq_false h, decide_eq_false fun z => h (by injection z with z; exact iL_inj z)]
theorem v_neL {ns ms : List Int} : pyNe (.lst (iL ns)) (.lst (iL ms)) = .im (.bl (!decide (ns = ms))) := by
  have d := depL_iL ns
  have d' := depL_iL ms
  rw [v_ned (d := .lst (iL ns)) (e := .lst (iL ms)) (eqdL_iL ns) (eqdL_iL ms) (by show Py.depL _ + 1 ≤ 60; omega) (by show Py.depL _ + 1 ≤ 60; omega)]
  congr 3
  by_cases h : ns = ms
  · subst h; rw [decide_eq_true rfl, decide_eq_true rfl]
  · rw [decide_eq_false h, decide_eq_false fun z => h (by injection z with z; exact iL_inj z)]
end Mr
/-! Dp: calls of defs, objects, list methods, while: rows -/
namespace Mr
open PySem L2
section
variable {ρ ρ1 ρ2 : Rho} {m : DM} {a b c e : Py} {d x t t' : Py} {r : Rv} {os : List Sl} {io : Bool} {i j n : Nat} {π : List Nat} {K : ER → Prop} {KS : SR → Prop} {l vs : List Py} {ks : List Str} {f : Str} {cn : Nat} {okc : Nat → Bool}
/-! ### a call, by what its run gives -/
theorem argsC_im {ios : List Bool} {ds : List Py} (hi : ios = ds.map fun _ => false) : argsC ios (ds.map .im) ρ = some (ds.map .im, ρ) := by
  subst hi
  induction ds with
  | nil => rfl
  | cons d ds ih =>
    show argC1 (argsC (ds.map fun _ => false) (ds.map .im)) (some (.im d, ρ)) = _
    show argC2 (.im d) (argsC (ds.map fun _ => false) (ds.map .im) ρ) = _
    rw [ih]; rfl
theorem cp {ds : List Py} {D : DR} (hi : m.ios = ds.map fun _ => false) (hr : m.run (ds.map (.im false)) = D) (hn : nal ρ = true) : callR m ρ (ds.map .im) = ofD ρ D := by
  show call1 m (argsC m.ios (ds.map .im) ρ) = _
  rw [argsC_im hi, call_im hi hn, hr]
theorem cp1 (hi : m.ios = [false]) (hr : m.run [.im false a] = .ok (.im x) os) (hn : nal ρ = true) : callR m ρ [.im a] = .ok (.im x) ρ := cp (ds := [a]) hi hr hn
theorem cp2 (hi : m.ios = [false, false]) (hr : m.run [.im false a, .im false b] = .ok (.im x) os) (hn : nal ρ = true) : callR m ρ [.im a, .im b] = .ok (.im x) ρ := cp (ds := [a, b]) hi hr hn
theorem cp3 (hi : m.ios = [false, false, false]) (hr : m.run [.im false a, .im false b, .im false c] = .ok (.im x) os) (hn : nal ρ = true) : callR m ρ [.im a, .im b, .im c] = .ok (.im x) ρ := cp (ds := [a, b, c]) hi hr hn
theorem cp4 (hi : m.ios = [false, false, false, false]) (hr : m.run [.im false a, .im false b, .im false c, .im false e] = .ok (.im x) os) (hn : nal ρ = true) : callR m ρ [.im a, .im b, .im c, .im e] = .ok (.im x) ρ := cp (ds := [a, b, c, e]) hi hr hn
theorem cf1 (hi : m.ios = [false]) (hr : m.run [.im false a] = .ok (.fr x) os) (hn : nal ρ = true) : callR m ρ [.im a] = .ok (.fr x) ρ := cp (ds := [a]) hi hr hn
theorem cf2 (hi : m.ios = [false, false]) (hr : m.run [.im false a, .im false b] = .ok (.fr x) os) (hn : nal ρ = true) : callR m ρ [.im a, .im b] = .ok (.fr x) ρ := cp (ds := [a, b]) hi hr hn
theorem cf3 (hi : m.ios = [false, false, false]) (hr : m.run [.im false a, .im false b, .im false c] = .ok (.fr x) os) (hn : nal ρ = true) : callR m ρ [.im a, .im b, .im c] = .ok (.fr x) ρ := cp (ds := [a, b, c]) hi hr hn
theorem cf4 (hi : m.ios = [false, false, false, false]) (hr : m.run [.im false a, .im false b, .im false c, .im false e] = .ok (.fr x) os) (hn : nal ρ = true) : callR m ρ [.im a, .im b, .im c, .im e] = .ok (.fr x) ρ := cp (ds := [a, b, c, e]) hi hr hn
theorem cx1 {k : Nat} (hi : m.ios = [false]) (hr : m.run [.im false a] = .ex k x os) (hn : nal ρ = true) : callR m ρ [.im a] = .ex k x ρ := cp (ds := [a]) hi hr hn
/-- .. the first argument lent -/
theorem ci {ds : List Py} (hi : m.ios = true :: ds.map fun _ => false) (hr : m.run (.ow true t :: ds.map (.im false)) = .ok r (.ow true t' :: os)) (hb : r.free = true) (hn : nal ρ = true) (ho : ρ[i]? = some (.ow io t)) (hm : t.mut = true) (ht : t'.imm = false) :
    callR m ρ (.bo i [] :: ds.map .im) = .ok r (ρ.set i (.ow io t')) := by
  show call1 m (argsC m.ios (.bo i [] :: ds.map .im) ρ) = _
  have e1 : argsC m.ios (.bo i [] :: ds.map .im) ρ = some (.bo i [] :: ds.map .im, ρ) := by
    rw [hi]
    show argC2 (.bo i []) (argsC (ds.map fun _ => false) (ds.map .im) ρ) = _
    rw [argsC_im rfl]; rfl
  rw [e1, call_io hi hn ho hm fun k π os' => by rw [hr]; exact fun z => by cases z; cases hb]
  rw [hr]
  cases r with
  | im d =>
    show (if t'.imm = true then ER.st else .ok (.im d) (ρ.set i (.ow io t'))) = _
    rw [ht]; rfl
  | fr d =>
    show (if t'.imm = true then ER.st else .ok (.fr d) (ρ.set i (.ow io t'))) = _
    rw [ht]; rfl
  | bo _ _ => cases hb
/-! ### objects -/
def fld3 (ρ : Rho) (r : Rv) (d : Py) (o : Option Nat) : Bool → ER
  | true => kidAt ρ r d o
  | false => .st
theorem fld_some : fld2 f okc ρ r (some (.obj cn ks vs)) = fld3 ρ r (.obj cn ks vs) (ixOf ks f) (okc cn) := by
  show (if okc cn = true then _ else _) = _
  cases okc cn <;> rfl
theorem fld3_t {o : Option Nat} : fld3 ρ r d o true = kidAt ρ r d o := nr rfl
theorem kidAt_O : kidAt ρ r (.obj cn ks vs) (some n) = kid3 ρ r n vs[n]? := nr rfl
theorem kidAt_D {lk : Bool} {kk : List Key} : kidAt ρ r (.dic lk kk vs) (some n) = kid3 ρ r n vs[n]? := nr rfl
theorem ix3_D {lk : Bool} {kk : List Key} : ix3 ρ r e (.dic lk kk vs) = kidAt ρ r (.dic lk kk vs) (ixK kk e.key) := nr rfl
theorem key_int {z : Int} : (Py.int z).key = some (.inl z) := nr rfl
theorem key_str {z : Str} : (Py.str z).key = some (.inr z) := nr rfl
theorem ixK_some {kk : List Key} {k : Key} : ixK kk (some k) = ixOf kk k := nr rfl
theorem putFA_2 {x : Rv} : putFA f okc [r, x] ρ = optS (store ρ x r (putFd f okc)) := nr rfl
def putF0 (o : Option (Nat × Py)) : Bool → Option (Nat × Py)
  | true => o
  | false => none
theorem putFd_O : putFd f okc d (.obj cn ks vs) = putF0 (putF1 cn ks vs f d (ixOf ks f)) (okc cn && decide (ks.length < 1000)) := by
  show (if (okc cn && decide (ks.length < 1000)) = true then _ else _) = _
  cases (okc cn && decide (ks.length < 1000)) <;> rfl
theorem putF0_t {o : Option (Nat × Py)} : putF0 o true = o := nr rfl
theorem putF1_s : putF1 cn ks vs f d (some n) = some (n, .obj cn ks (vs.set n d)) := nr rfl
theorem putF1_n : putF1 cn ks vs f d none = some (vs.length, .obj cn (ks ++ [f]) (vs ++ [d])) := nr rfl
theorem make2_some : make2 n ρ (some r) = .ok r (ρ.front n) := nr rfl
theorem wm_dnew : WE (mDNew ρ) K = WE (.ok (.fr (.dic false [] [])) ρ) K := nr rfl
/-! ### dicts, written -/
theorem putIx_D {kk : List Key} : putIx e d (.dic false kk vs) = putDk kk vs d e.key := nr rfl
theorem putDk_some {kk : List Key} {q : Key} (h : kk.length < 16777216) : putDk kk vs d (some q) = putDc kk vs d q (ixOf kk q) := if_pos h
theorem putDc_s {kk : List Key} {q : Key} : putDc kk vs d q (some n) = some (n, .dic false kk (vs.set n d)) := nr rfl
theorem putDc_n {kk : List Key} {q : Key} (h : kk.length < 16777216) : putDc kk vs d q none = some (vs.length, .dic false (kk ++ [q]) (vs ++ [d])) := if_pos h
/-! ### a part of a slot's tree -/
theorem nal_al : nal (.al i π :: ρ) = false := nr rfl
theorem frt_f : frt ρ n false = (ρ.take n).map (Sl.cutN n) := nr rfl
theorem cutN_no : Sl.cutN n .no = .no := nr rfl
theorem cutN_im : Sl.cutN n (.im io d) = .im io d := nr rfl
theorem cutN_ow : Sl.cutN n (.ow io d) = .ow io d := nr rfl
theorem cutN_fS {o : Option (Bool × Py)} : Sl.cutN n (fS o) = fS o := by
  match o with
  | none => rfl
  | some (true, d) => rfl
  | some (false, d) => rfl
def rvT2 (i : Nat) (π : List Nat) : Bool → Option Rv
  | true => some (.bo i π)
  | false => none
theorem rvT_al : rvT n (some (.al i π)) = rvT2 i π (decide (i < n)) := by
  show (if i < n then some (Rv.bo i π) else none) = _
  by_cases h : i < n
  · rw [if_pos h, decide_eq_true h]; rfl
  · rw [if_neg h, decide_eq_false h]; rfl
theorem rvT2_t : rvT2 i π true = some (.bo i π) := nr rfl
theorem datS_P : datS (n :: π) (some (.ow io t)) = t.getP (n :: π) := nr rfl
def Py.getP2 (π : List Nat) : Option Py → Option Py
  | some k => k.getP π
  | none => none
theorem getP_nil : d.getP [] = some d := by cases d <;> rfl
theorem getP_cons : d.getP (n :: π) = Py.getP2 π d.kids[n]? := by
  show (match d.kids[n]? with | some k => k.getP π | none => none) = _
  cases d.kids[n]? <;> rfl
theorem getP2_some : Py.getP2 π (some d) = d.getP π := nr rfl
theorem kids_obj : (Py.obj cn ks vs).kids = vs := nr rfl
theorem kids_lst : (Py.lst vs).kids = vs := nr rfl
theorem kids_tup : (Py.tup vs).kids = vs := nr rfl
theorem kids_dic {lk : Bool} {kk : List Key} : (Py.dic lk kk vs).kids = vs := nr rfl
def Py.putP2 (d : Py) (n : Nat) (π : List Nat) (e : Py) : Option Py → Py
  | some k => d.setKids (d.kids.set n (k.putP π e))
  | none => d
theorem putP_nil : d.putP [] e = e := by cases d <;> rfl
theorem putP_cons : d.putP (n :: π) e = Py.putP2 d n π e d.kids[n]? := by
  show (match d.kids[n]? with | some k => d.setKids (d.kids.set n (k.putP π e)) | none => d) = _
  cases d.kids[n]? <;> rfl
theorem putP2_some {k : Py} : Py.putP2 d n π e (some k) = d.setKids (d.kids.set n (k.putP π e)) := nr rfl
theorem setK_obj : (Py.obj cn ks vs).setKids l = .obj cn ks l := nr rfl
theorem setK_lst : (Py.lst vs).setKids l = .lst l := nr rfl
theorem setK_dic {lk : Bool} {kk : List Key} : (Py.dic lk kk vs).setKids l = .dic lk kk l := nr rfl
def datR2 : Option Py → Option Py
  | some d => if d.imm = true then none else some d
  | none => none
theorem datR_P : datR ρ (.bo i (n :: π)) = datR2 (datP ρ i (n :: π)) := by
  show (match datP ρ i (n :: π) with | some d => if d.imm = true then none else some d | none => none) = _
  cases datP ρ i (n :: π) <;> rfl
theorem datR2_lst : datR2 (some (.lst l)) = some (.lst l) := nr rfl
theorem datR2_dic {lk : Bool} {kk : List Key} : datR2 (some (.dic lk kk vs)) = some (.dic lk kk vs) := nr rfl
theorem datR2_obj : datR2 (some (.obj cn ks vs)) = some (.obj cn ks vs) := nr rfl
/-- a store into a part -/
def stP3 (ρ : Rho) (i : Nat) (π : List Nat) (io : Bool) (t : Py) : Option (Nat × Py) → Option Rho
  | some (_, d') => if d'.imm = true then none else some (ρ.set i (.ow io (t.putP π d')))
  | none => none
def stP2 (ρ : Rho) (i : Nat) (π : List Nat) (io : Bool) (t : Py) (g : Py → Option (Nat × Py)) : Option Py → Option Rho
  | some d => if d.mut = true then stP3 ρ i π io t (g d) else none
  | none => none
def stP1 (ρ : Rho) (i : Nat) (π : List Nat) (g : Py → Option (Nat × Py)) : Option Sl → Option Rho
  | some (.ow io t) => stP2 ρ i π io t g (t.getP π)
  | _ => none
def stP0 (ρ : Rho) (i : Nat) (π : List Nat) (g : Py → Option (Nat × Py)) : Bool → Option Rho
  | true => stP1 ρ i π g ρ[i]?
  | false => st2 ρ i π g ρ[i]?
theorem stP_eq {g : Py → Option (Nat × Py)} (h : nal ρ = true) : st2 ρ i π g ρ[i]? = stP1 ρ i π g ρ[i]? := by
  cases q : ρ[i]? with
  | none => rfl
  | some s =>
    cases s with
    | ow io t =>
      show st2b ρ i π io t g (t.getP π) = stP2 ρ i π io t g (t.getP π)
      cases t.getP π with
      | none => rfl
      | some d =>
        show (if d.mut = true then st3 ρ i π io t (g d) else none) = (if d.mut = true then stP3 ρ i π io t (g d) else none)
        cases g d with
        | none => rfl
        | some x =>
          show (if d.mut = true then (if x.2.imm = true then none else some (ρ.wr i π io t x.2 fun m => m != x.1)) else none) = _
          unfold Rho.wr
          rw [nal_cutW h]
          rfl
    | _ => rfl
theorem stP_im {g : Py → Py → Option (Nat × Py)} : store ρ (.bo i (n :: π)) (.im d) g = stP0 ρ i (n :: π) (g (wrap1 d)) (nal ρ) := by
  cases h : nal ρ
  · rfl
  · exact stP_eq h
theorem stP_fr {g : Py → Py → Option (Nat × Py)} : store ρ (.bo i (n :: π)) (.fr d) g = stP0 ρ i (n :: π) (g d) (nal ρ) := by
  cases h : nal ρ
  · rfl
  · exact stP_eq h
theorem stP0_t {g : Py → Option (Nat × Py)} : stP0 ρ i π g true = stP1 ρ i π g ρ[i]? := nr rfl
theorem stP1_ow {g : Py → Option (Nat × Py)} : stP1 ρ i π g (some (.ow io t)) = stP2 ρ i π io t g (t.getP π) := nr rfl
theorem stP2_dic {g : Py → Option (Nat × Py)} {lk : Bool} {kk : List Key} : stP2 ρ i π io t g (some (.dic lk kk vs)) = stP3 ρ i π io t (g (.dic lk kk vs)) := nr rfl
theorem stP2_lst {g : Py → Option (Nat × Py)} : stP2 ρ i π io t g (some (.lst vs)) = stP3 ρ i π io t (g (.lst vs)) := nr rfl
theorem stP2_obj {g : Py → Option (Nat × Py)} : stP2 ρ i π io t g (some (.obj cn ks vs)) = stP3 ρ i π io t (g (.obj cn ks vs)) := nr rfl
theorem stP3_dic {lk : Bool} {kk : List Key} : stP3 ρ i π io t (some (n, .dic lk kk vs)) = some (ρ.set i (.ow io (t.putP π (.dic lk kk vs)))) := nr rfl
theorem stP3_lst : stP3 ρ i π io t (some (n, .lst vs)) = some (ρ.set i (.ow io (t.putP π (.lst vs)))) := nr rfl
theorem stP3_obj : stP3 ρ i π io t (some (n, .obj cn ks vs)) = some (ρ.set i (.ow io (t.putP π (.obj cn ks vs)))) := nr rfl
/-! ### extend -/
theorem opExt_1 {x : Rv} : opExtend x [r] ρ = ext1 x (flatR ρ r) := nr rfl
def exO2 (ρ : Rho) (i : Nat) (m : List Py) : Option Sl → ER
  | some (.ow io (.lst l)) => if l.length + m.length ≤ 16777216 then .ok (.im .non) (ρ.set i (.ow io (.lst (l ++ m.map wrap1)))) else .st
  | _ => .st
def exO1 (ρ : Rho) (i : Nat) (m : List Py) : Bool → ER
  | true => exO2 ρ i m ρ[i]?
  | false => extO ρ m (rcv ρ (.bo i []))
theorem ext_L {m : List Py} : ext1 (.bo i []) (some (.lst m, ρ)) = exO1 ρ i m (nal ρ) := by
  cases h : nal ρ
  · rfl
  show extO ρ m (rcv2 i [] ρ[i]?) = exO2 ρ i m ρ[i]?
  cases q : ρ[i]? with
  | none => rfl
  | some s =>
    cases s with
    | ow io t =>
      show extO ρ m (rcv3 i [] io t (t.getP [])) = _
      rw [getP_nil]
      cases t with
      | lst l =>
        show (if l.length + m.length ≤ sizeLine then ER.ok (.im .non) (Rc.wr ⟨i, [], io, .lst l, .lst l⟩ ρ (.lst (l ++ m.map wrap1)) fun j => decide (j < l.length)) else .st) = (if l.length + m.length ≤ 16777216 then .ok (.im .non) (ρ.set i (.ow io (.lst (l ++ m.map wrap1)))) else .st)
        unfold Rc.wr Rho.wr
        rw [nal_cutW h]
        rfl
      | tup l =>
        show extO ρ m (if (Py.tup l).mut = true then some ⟨i, [], io, .tup l, .tup l⟩ else none) = .st
        split <;> rfl
      | _ => rfl
    | _ => rfl
theorem exO1_t {m : List Py} : exO1 ρ i m true = exO2 ρ i m ρ[i]? := nr rfl
theorem exO2_ok {m : List Py} (h : l.length + m.length ≤ 16777216) : exO2 ρ i m (some (.ow io (.lst l))) = .ok (.im .non) (ρ.set i (.ow io (.lst (l ++ m.map wrap1)))) := if_pos h
theorem wr_iL (ns : List Int) : (ns.map Py.int).map wrap1 = ns.map Py.int := by rw [List.map_map]; exact List.map_congr_left fun x _ => rfl
theorem wr_imm (h : Py.immL l = true) : l.map wrap1 = l := by
  induction l with
  | nil => rfl
  | cons d l ih =>
    have q := Bool.and_eq_true_iff.mp (show (d.imm && Py.immL l) = true from h)
    rw [List.map_cons, wrap1_ok q.1, ih q.2]
theorem pl_imm (h : Py.immL l = true) : l.map Py.plain = l := map_pl fun d hd => by
  induction l with
  | nil => cases hd
  | cons x l ih =>
    have q := Bool.and_eq_true_iff.mp (show (x.imm && Py.immL l) = true from h)
    rcases List.mem_cons.mp hd with e | e
    · rw [e]; exact imm_pl q.1
    · exact ih q.2 e
/-! ### a loop over items that are told -/
def kNx (mg : MG) (b : MS) (ds : List Py) (KS : SR → Prop) : SR → Prop
  | .nx ρ => WS (forM mg b ds ρ) KS
  | .ct ρ => WS (forM mg b ds ρ) KS
  | .bk ρ => WS (.nx ρ) KS
  | .rt r ρ => WS (.rt r ρ) KS
  | .ex c w ρ => WS (.ex c w ρ) KS
  | .st => False
def WG (o : Option Rho) (b : MS) (K : SR → Prop) : Prop := ∃ ρ, o = some ρ ∧ WS (b ρ) K
section
variable {mg : MG} {mb : MS} {ds : List Py} {c : Nat} {w : Py}
theorem wg_some : WG (some ρ) mb KS = WS (mb ρ) KS := propext ⟨fun ⟨_, h, k⟩ => by cases h; exact k, fun h => ⟨_, rfl, h⟩⟩
theorem wf_nil : WS (forM mg mb [] ρ) KS = WS (.nx ρ) KS := nr rfl
theorem wf_go (h : WG (mg (.im d.unfz) ρ) mb (kNx mg mb ds KS)) : WS (forM mg mb (d :: ds) ρ) KS := by
  obtain ⟨ρ2, e, h⟩ := h
  show KS (match mg (.im d.unfz) ρ with | none => SR.st | some ρ1 => match mb ρ1 with | .nx ρ2 => forM mg mb ds ρ2 | .ct ρ2 => forM mg mb ds ρ2 | .bk ρ2 => .nx ρ2 | x => x)
  rw [e]
  show KS (match mb ρ2 with | .nx ρ2 => forM mg mb ds ρ2 | .ct ρ2 => forM mg mb ds ρ2 | .bk ρ2 => .nx ρ2 | x => x)
  unfold WS at h
  cases e2 : mb ρ2 with
  | st => rw [e2] at h; exact h.elim
  | _ => rw [e2] at h; exact h
theorem kn_nx : WS (.nx ρ) (kNx mg mb ds KS) = WS (forM mg mb ds ρ) KS := nr rfl
theorem kn_ct : WS (.ct ρ) (kNx mg mb ds KS) = WS (forM mg mb ds ρ) KS := nr rfl
theorem kn_bk : WS (.bk ρ) (kNx mg mb ds KS) = WS (.nx ρ) KS := nr rfl
theorem kn_rt : WS (.rt r ρ) (kNx mg mb ds KS) = WS (.rt r ρ) KS := nr rfl
theorem kn_ex : WS (.ex c w ρ) (kNx mg mb ds KS) = WS (.ex c w ρ) KS := nr rfl
end
theorem m1k_s {fm : Str → Py → OV} {mb : ME} {z : Str} : WE (m1k fm mb ρ (.im (.str z))) K = WE (mb ρ) (kB (fun y ρ2 => op1 (fm z) ρ2 (datR ρ2 y)) K) := nr rfl
/-! ### names at once -/
section
variable {ma mb mc : ME} {s : Rv} {l3 : Nat} {x : Rv}
theorem wm_par : WS (mPar i j ma mb ρ) KS = WA (aCons ma (aCons mb aNil) ρ) (kAT (parA i j) KS) := nr rfl
theorem wm_par3 : WS (mPar3 i j n ma mb mc ρ) KS = WA (aCons ma (aCons mb (aCons mc aNil)) ρ) (kAT (parB i j n) KS) := nr rfl
def parB' (i j n : Nat) (r s x : Rv) (ρ : Rho) : Bool → SR
  | true => par3b j n s x (setRv i r ρ)
  | false => .st
theorem parB_3 : parB i j n [r, s, x] ρ = parB' i j n r s x ρ (parOk i s && (parOk i x && parOk j x)) := by
  show (if (parOk i s && (parOk i x && parOk j x)) = true then par3b j n s x (setRv i r ρ) else .st) = _
  cases (parOk i s && (parOk i x && parOk j x)) <;> rfl
theorem parB'_t : parB' i j n r s x ρ true = par3b j n s x (setRv i r ρ) := nr rfl
theorem par3b_some : par3b j n s x (some ρ) = par3c n x (setRv j s ρ) := nr rfl
theorem par3c_some : par3c n x (some ρ) = optS (setRv n x ρ) := nr rfl
end
/-! ### a comprehension that changes no slot, by the list ahead of each turn -/
theorem wc_lca {vs : List Nat} {mg : MG} {mt me : ME} {items : List Py} {k0 : Nat} (G : Nat → List Py) (h0 : G 0 = [])
    (hs : ∀ (n : Nat) (d : Py), items[n]? = some d → WOE (mg (.im d.unfz) (ρ ++ [.ow false (.lst (G n))])) mt (kLcT vs k0 me (fun ρ' => ρ' = ρ ++ [.ow false (.lst (G (n + 1)))])))
    (he : WE (mLc3 vs k0 (some (ρ ++ [.ow false (.lst (G items.length))]))) K) : WE (mLc2 vs mg mt me items k0 (some ρ)) K := by
  refine wc_lc (fun n ρ' => ρ' = ρ ++ [.ow false (.lst (G n))]) (by rw [h0]) ?_ ?_
  · rintro n d ρ' hd rfl
    exact hs n d hd
  · rintro ρ' rfl
    exact he
/-! ### places of keys -/
theorem ixOf_nil {k : Key} : ixOf [] k = none := nr rfl
def ixO2 (o : Option Nat) : Bool → Option Nat
  | true => some 0
  | false => o.map (· + 1)
theorem ixOf_int {a b : Int} {l : List Key} : ixOf (.inl a :: l) (.inl b : Key) = ixO2 (ixOf l (.inl b)) (decide (a = b)) := by
  show (if (Sum.inl a : Key) = .inl b then some 0 else (ixOf l (.inl b)).map (· + 1)) = _
  by_cases h : a = b
  · subst h; rw [if_pos rfl, decide_eq_true rfl]; rfl
  · rw [if_neg (fun z => h (by injection z)), decide_eq_false h]; rfl
theorem ixO2_t {o : Option Nat} : ixO2 o true = some 0 := nr rfl
theorem ixO2_fn : ixO2 none false = none := nr rfl
theorem ixO2_fs : ixO2 (some n) false = some (n + 1) := nr rfl
/-! ### may its items be shared -/
def fk (d : Py) : Bool := d.imm || d.isFz
theorem fo_lst : (Py.lst l).flatOk = l.all fk := nr rfl
theorem fo_dic {lk : Bool} {kk : List Key} : (Py.dic lk kk vs).flatOk = vs.all fk := nr rfl
theorem fo_obj : (Py.obj cn ks vs).flatOk = vs.all fk := nr rfl
theorem fk_int {z : Int} : fk (.int z) = true := nr rfl
theorem fk_str {z : Str} : fk (.str z) = true := nr rfl
theorem fk_bl {z : Bool} : fk (.bl z) = true := nr rfl
theorem fk_non : fk .non = true := nr rfl
theorem fk_fz : fk (.fz d) = true := nr rfl
theorem fk_lst : fk (.lst l) = false := nr rfl
theorem fk_dic {lk : Bool} {kk : List Key} : fk (.dic lk kk vs) = false := nr rfl
theorem fk_obj : fk (.obj cn ks vs) = false := nr rfl
theorem fk_tup : fk (.tup l) = Py.immL l := by show (Py.immL l || false) = _; rw [Bool.or_false]
theorem fk_iL (ns : List Int) : (ns.map Py.int).all fk = true := by
  rw [List.all_eq_true]
  intro x hx
  obtain ⟨n, _, rfl⟩ := List.mem_map.mp hx
  rfl
theorem fk_imm (h : Py.immL l = true) : l.all fk = true := by
  rw [List.all_eq_true]
  intro x hx
  induction l with
  | nil => cases hx
  | cons y l ih =>
    have q := Bool.and_eq_true_iff.mp (show (y.imm && Py.immL l) = true from h)
    rcases List.mem_cons.mp hx with e | e
    · rw [e]; unfold fk; rw [q.1]; rfl
    · exact ih q.2 e
theorem fk_wr : (l.map wrap1).all fk = true := by
  rw [List.all_eq_true]
  intro x hx
  obtain ⟨y, _, rfl⟩ := List.mem_map.mp hx
  unfold wrap1 fk
  by_cases h : y.imm = true
  · rw [if_pos h, h]; rfl
  · rw [if_neg h]; rfl
def wtup (l : List Py) : Bool → Py
  | true => .tup l
  | false => .fz (.tup l)
theorem wrap1_tup : wrap1 (.tup l) = wtup l (Py.immL l) := by
  show (if Py.immL l = true then Py.tup l else .fz (.tup l)) = _
  cases Py.immL l <;> rfl
theorem wtup_t : wtup l true = .tup l := nr rfl
theorem wtup_f : wtup l false = .fz (.tup l) := nr rfl
/-! ### raise, try -/
theorem try_ex {n i : Nat} {cs : List Nat} {su : Nat → Py → ME} {k : Nat} {w : Py} {ρ' : Rho} (h1 : k < n) (h2 : cs.contains k = true) (h3 : setS ρ i .no = some ρ') : WS (.ex k w ρ) (kTry n cs i su KS) = WE (su k w ρ') (kSuit KS) := wtr_ex h1 h2 h3
/-! ### while -/
def kWh (mt : ME) (mb : MS) (Q : Rho → Prop) (KS : SR → Prop) : ER → Prop
  | .ok r ρ => (match r.bl? with
    | some true => WS (mb ρ) (kTurn Q KS)
    | some false => WS (.nx ρ) KS
    | none => False)
  | .ex c w ρ => WS (.ex c w ρ) KS
  | .st => False
theorem kw_T {mt : ME} {mb : MS} {Q : Rho → Prop} : WE (.ok (.im (.bl true)) ρ) (kWh mt mb Q KS) = WS (mb ρ) (kTurn Q KS) := nr rfl
theorem kw_F {mt : ME} {mb : MS} {Q : Rho → Prop} : WE (.ok (.im (.bl false)) ρ) (kWh mt mb Q KS) = WS (.nx ρ) KS := nr rfl
theorem kw_if {mt : ME} {mb : MS} {Q : Rho → Prop} {x : Bool} (h1 : x = true → WS (mb ρ) (kTurn Q KS)) (h2 : x = false → WS (.nx ρ) KS) : WE (.ok (.im (.bl x)) ρ) (kWh mt mb Q KS) := by
  cases x
  · exact h2 rfl
  · exact h1 rfl
/-- a while by a measure -/
theorem wc_while {mt : ME} {mb : MS} (P : Nat → Rho → Prop) {fuel k : Nat} (hk : k < fuel) (h0 : P k ρ)
    (hs : ∀ (k : Nat) (ρ' : Rho), P k ρ' → WE (mt ρ') (kWh mt mb (fun ρ2 => ∃ j, j < k ∧ P j ρ2) KS)) : WS (whileM mt mb fuel ρ) KS := by
  induction fuel generalizing k ρ with
  | zero => omega
  | succ fuel ih =>
    have q := hs k ρ h0
    unfold WE at q
    show KS ((mt ρ).then fun r ρ1 => match r.bl? with
      | some b => if b = true then (match mb ρ1 with
        | .nx ρ2 => whileM mt mb fuel ρ2
        | .ct ρ2 => whileM mt mb fuel ρ2
        | .bk ρ2 => .nx ρ2
        | x => x) else .nx ρ1
      | none => .st)
    cases e : mt ρ with
    | st => rw [e] at q; exact q.elim
    | ex c w ρ1 => rw [e] at q; exact q
    | ok r ρ1 =>
      rw [e] at q
      show KS (match r.bl? with
        | some b => if b = true then (match mb ρ1 with
          | .nx ρ2 => whileM mt mb fuel ρ2
          | .ct ρ2 => whileM mt mb fuel ρ2
          | .bk ρ2 => .nx ρ2
          | x => x) else .nx ρ1
        | none => .st)
      have q : (match r.bl? with
        | some true => WS (mb ρ1) (kTurn (fun ρ2 => ∃ j, j < k ∧ P j ρ2) KS)
        | some false => WS (.nx ρ1) KS
        | none => False) := q
      cases eb : r.bl? with
      | none => rw [eb] at q; exact q.elim
      | some b =>
        rw [eb] at q
        cases b with
        | false => exact q
        | true =>
          have q : WS (mb ρ1) (kTurn (fun ρ2 => ∃ j, j < k ∧ P j ρ2) KS) := q
          show KS (match mb ρ1 with
            | .nx ρ2 => whileM mt mb fuel ρ2
            | .ct ρ2 => whileM mt mb fuel ρ2
            | .bk ρ2 => .nx ρ2
            | x => x)
          unfold WS at q
          cases e2 : mb ρ1 with
          | nx ρ2 => rw [e2] at q; obtain ⟨j, hj, hp⟩ := q; exact ih (by omega) hp
          | ct ρ2 => rw [e2] at q; obtain ⟨j, hj, hp⟩ := q; exact ih (by omega) hp
          | bk ρ2 => rw [e2] at q; exact q
          | rt r ρ2 => rw [e2] at q; exact q
          | ex c w ρ2 => rw [e2] at q; exact q
          | st => rw [e2] at q; exact q.elim
end
end Mr
namespace Lw
open PySem PySem.Spec PyProof.Rows L2 Mr
def top (i : Nat) : Stmt := PySem.Challenge.pw_bornroots_k11_pages_and_full_books.main.body.getD i (.Pass ⟨0, 0, 0, 0⟩)
def is_NoRoom (c : Nat) : Bool := [false].getD c false
def is_Refused (c : Nat) : Bool := [true].getD c false
def is_ValueError (c : Nat) : Bool := [true].getD c false
def at_dead (c : Nat) : Bool := [false, true, false, false].getD c false
def at_head (c : Nat) : Bool := [false, false, true, false].getD c false
def at_ident (c : Nat) : Bool := [false, true, false, false].getD c false
def at_mark (c : Nat) : Bool := [false, true, false, false].getD c false
def at_name (c : Nat) : Bool := [false, false, true, false].getD c false
def at_next_id (c : Nat) : Bool := [false, false, false, true].getD c false
def at_prev (c : Nat) : Bool := [false, true, false, false].getD c false
def at_quota (c : Nat) : Bool := [false, false, true, false].getD c false
def at_roots (c : Nat) : Bool := [false, false, false, true].getD c false
def at_snap (c : Nat) : Bool := [false, true, false, false].getD c false
def at_time (c : Nat) : Bool := [false, true, false, false].getD c false
def at_top (c : Nat) : Bool := [false, true, false, false].getD c false
def at_volume (c : Nat) : Bool := [false, true, false, false].getD c false
def at_volumes (c : Nat) : Bool := [false, false, false, true].getD c false
abbrev s_page_place : Stmt := top 8
theorem sc_page_place : FnScope ["area", "i"] ["area", "i"] (defScope s_page_place) := ⟨rfl, rfl, rfl, by decide +kernel, rfl, by decide +kernel, by decide +kernel⟩
def m_page_place : DM := ⟨2, [false, false],
(mRet (mOpS pyAdd (mFz (mOpS pyMul (mC (.int 11)) (mVar 0))) (mVar 1)))⟩
abbrev s_name_number : Stmt := top 12
theorem sc_name_number : FnScope ["name", "found", "sign"] ["name"] (defScope s_name_number) := ⟨rfl, rfl, rfl, by decide +kernel, rfl, by decide +kernel, by decide +kernel⟩
def m_name_number : DM := ⟨3, [false],
(mSeq (mSet 1 (mC (.int 0)))
(mSeq (mFor (iAny (mVar 0)) (gN 2)
(mSet 1 (mFz (mOpS pyAdd (mFz (mOpS pyAdd (mFz (mOpS pyMul (mC (.int 27)) (mVar 1))) (mFz (mM1 fIndex (mC (.str "abcdefghijklmnopqrstuvwxyz")) (mVar 2))))) (mC (.int 1))))))
(mRet (mVar 1))))⟩
abbrev s_name_of : Stmt := top 13
theorem sc_name_of : FnScope ["number", "found"] ["number"] (defScope s_name_of) := ⟨rfl, rfl, rfl, by decide +kernel, rfl, by decide +kernel, by decide +kernel⟩
def m_name_of : DM := ⟨2, [false],
(mSeq (mSet 1 (mC (.str "")))
(mSeq (whileM (mB (mOp pyGt (mVar 0) (mC (.int 0))))
(mSeq (mSet 1 (mFz (mOpS pyAdd (mIx (mC (.str "abcdefghijklmnopqrstuvwxyz")) (mOp pySub (mFz (mOp pyMod (mVar 0) (mC (.int 27)))) (mC (.int 1)))) (mVar 1))))
(mAug 0 pyDiv (mC (.int 27)))) whileFuel)
(mRet (mVar 1))))⟩
abbrev s_root_numbers : Stmt := top 22
theorem sc_root_numbers : FnScope ["root", "snap", "found", "address", "birth"] ["root"] (defScope s_root_numbers) := ⟨rfl, rfl, rfl, by decide +kernel, rfl, by decide +kernel, by decide +kernel⟩
def m_root_numbers : DM := ⟨5, [false],
(mSeq (mSet 1 (mFz (mIf (mB (mOp pyIs (mFld "snap" at_snap (mVar 0)) (mC .non))) (mC (.int 0)) (mCallD m_name_number [] (aCons (mFld "snap" at_snap (mVar 0)) aNil)))))
(mSeq (mSet 2 (mOpS pyAdd (mFz (mOpS pyAdd (mFz (mLst (aCons (mFld "ident" at_ident (mVar 0)) (aCons (mFld "volume" at_volume (mVar 0)) (aCons (mVar 1) (aCons (mFld "prev" at_prev (mVar 0)) (aCons (mFld "time" at_time (mVar 0)) aNil))))))) (mFz (mCBS (one pyList) (aCons (mFld "mark" at_mark (mVar 0)) aNil))))) (mFz (mCBS (one pyList) (aCons (mFld "top" at_top (mVar 0)) aNil)))))
(mSeq (mDrop (mBM "list" opAppend (mVar 2) (aCons (mCB (one pyLenD) (aCons (mFld "dead" at_dead (mVar 0)) aNil)) aNil)))
(mSeq (mFor (iAny (mFld "dead" at_dead (mVar 0))) (gT 2 (gs1 (gN 3) (gs1 (gN 4) gs0)))
(mDrop (mBM "list" opExtA (mVar 2) (aCons (mLst (aCons (mVar 3) (aCons (mVar 4) aNil))) aNil))))
(mRet (mVar 2))))))⟩
abbrev s_book_numbers : Stmt := top 23
theorem sc_book_numbers : FnScope ["book", "found", "ident", "volume"] ["book"] (defScope s_book_numbers) := ⟨rfl, rfl, rfl, by decide +kernel, rfl, by decide +kernel, by decide +kernel⟩
def m_book_numbers : DM := ⟨4, [false],
(mSeq (mSet 1 (mLst (aCons (mFld "next_id" at_next_id (mVar 0)) (aCons (mCB (one pyLenD) (aCons (mFld "volumes" at_volumes (mVar 0)) aNil)) (aCons (mCB (one pyLenD) (aCons (mFld "roots" at_roots (mVar 0)) aNil)) aNil)))))
(mSeq (mFor (iAny (mCB (one pySortA) (aCons (mFld "volumes" at_volumes (mVar 0)) aNil))) (gN 2)
(mSeq (mSet 3 (mIx (mFld "volumes" at_volumes (mVar 0)) (mVar 2)))
(mDrop (mBM "list" opExtA (mVar 1) (aCons (mLst (aCons (mCallD m_name_number [] (aCons (mFld "name" at_name (mVar 3)) aNil)) (aCons (mFld "quota" at_quota (mVar 3)) (aCons (mFld "head" at_head (mVar 3)) aNil)))) aNil)))))
(mSeq (mFor (iAny (mCB (one pySortA) (aCons (mFld "roots" at_roots (mVar 0)) aNil))) (gN 2)
(mDrop (mBM "list" opExtA (mVar 1) (aCons (mCallD m_root_numbers [] (aCons (mIx (mFld "roots" at_roots (mVar 0)) (mVar 2)) aNil)) aNil))))
(mRet (mCBS (one pyTuple) (aCons (mVar 1) aNil))))))⟩
abbrev s_Root___init__ : Stmt := inClass (top 15) 0
theorem sc_Root___init__ : FnScope ["self", "ident", "volume", "snap", "prev", "time", "mark", "top", "dead"] ["self", "ident", "volume", "snap", "prev", "time", "mark", "top", "dead"] (defScope s_Root___init__) := ⟨rfl, rfl, rfl, by decide +kernel, rfl, by decide +kernel, by decide +kernel⟩
def m_Root___init__ : DM := ⟨9, [true, false, false, false, false, false, false, false, false],
(mSeq (mPutFd "ident" at_ident (mVar 1) (mVar 0))
(mSeq (mPutFd "volume" at_volume (mVar 2) (mVar 0))
(mSeq (mPutFd "snap" at_snap (mVar 3) (mVar 0))
(mSeq (mPutFd "prev" at_prev (mVar 4) (mVar 0))
(mSeq (mPutFd "time" at_time (mVar 5) (mVar 0))
(mSeq (mPutFd "mark" at_mark (mVar 6) (mVar 0))
(mSeq (mPutFd "top" at_top (mVar 7) (mVar 0))
(mPutFd "dead" at_dead (mVar 8) (mVar 0)))))))))⟩
abbrev s_root_of : Stmt := top 24
theorem sc_root_of : FnScope ["numbers", "at", "ident", "volume", "snap", "prev", "time", "mark", "top", "begin", "end", "dead", "k"] ["numbers", "at"] (defScope s_root_of) := ⟨rfl, rfl, rfl, by decide +kernel, rfl, by decide +kernel, by decide +kernel⟩
def m_root_of : DM := ⟨13, [false, false],
(mSeq (mAsg (gT 5 (gs1 (gN 2) (gs1 (gN 3) (gs1 (gN 4) (gs1 (gN 5) (gs1 (gN 6) gs0)))))) (mFz (mSl (mVar 0) (mInt (mVar 1)) (mInt (mOpS pyAdd (mVar 1) (mC (.int 5)))))))
(mSeq (mPar 7 8 (mFz (mCBS (one pyTuple) (aCons (mFz (mSl (mVar 0) (mInt (mOpS pyAdd (mVar 1) (mC (.int 5)))) (mInt (mOpS pyAdd (mVar 1) (mC (.int 7)))))) aNil))) (mFz (mCBS (one pyTuple) (aCons (mFz (mSl (mVar 0) (mInt (mOpS pyAdd (mVar 1) (mC (.int 7)))) (mInt (mOpS pyAdd (mVar 1) (mC (.int 9)))))) aNil))))
(mSeq (mSet 9 (mFz (mOpS pyAdd (mVar 1) (mC (.int 10)))))
(mSeq (mSet 10 (mFz (mOpS pyAdd (mVar 9) (mFz (mOpS pyMul (mC (.int 2)) (mIx (mVar 0) (mOpS pyAdd (mVar 1) (mC (.int 9)))))))))
(mSeq (mSet 11 (mFz (mCBS (one pyTuple) (aCons (mFz (mLc [12] (iOf fRange3 (aCons (mVar 9) (aCons (mVar 10) (aCons (mC (.int 2)) aNil)))) (gN 12) (mC (.bl true)) (mTup (aCons (mIx (mVar 0) (mVar 12)) (aCons (mIx (mVar 0) (mOpS pyAdd (mVar 12) (mC (.int 1)))) aNil))))) aNil))))
(mRet (mTup (aCons (mMake 1 m_Root___init__ [] (aCons (mVar 2) (aCons (mVar 3) (aCons (mFz (mIf (mB (mOp pyEq (mVar 4) (mC (.int 0)))) (mC .non) (mCallD m_name_of [] (aCons (mVar 4) aNil)))) (aCons (mVar 5) (aCons (mVar 6) (aCons (mVar 7) (aCons (mVar 8) (aCons (mVar 11) aNil))))))))) (aCons (mVar 10) aNil)))))))))⟩
abbrev s_Volume___init__ : Stmt := inClass (top 16) 0
theorem sc_Volume___init__ : FnScope ["self", "name", "quota", "head"] ["self", "name", "quota", "head"] (defScope s_Volume___init__) := ⟨rfl, rfl, rfl, by decide +kernel, rfl, by decide +kernel, by decide +kernel⟩
def m_Volume___init__ : DM := ⟨4, [true, false, false, false],
(mSeq (mPutFd "name" at_name (mVar 1) (mVar 0))
(mSeq (mPutFd "quota" at_quota (mVar 2) (mVar 0))
(mPutFd "head" at_head (mVar 3) (mVar 0))))⟩
abbrev s_Book___init__ : Stmt := inClass (top 17) 0
theorem sc_Book___init__ : FnScope ["self"] ["self"] (defScope s_Book___init__) := ⟨rfl, rfl, rfl, by decide +kernel, rfl, by decide +kernel, by decide +kernel⟩
def m_Book___init__ : DM := ⟨1, [true],
(mSeq (mPutFd "next_id" at_next_id (mC (.int 1)) (mVar 0))
(mSeq (mPutFd "volumes" at_volumes mDNew (mVar 0))
(mPutFd "roots" at_roots mDNew (mVar 0))))⟩
abbrev s_book_of : Stmt := top 25
theorem sc_book_of : FnScope ["numbers", "found", "at", "turn", "name", "quota", "head", "root"] ["numbers"] (defScope s_book_of) := ⟨rfl, rfl, rfl, by decide +kernel, rfl, by decide +kernel, by decide +kernel⟩
def m_book_of : DM := ⟨8, [false],
(mSeq (mSet 1 (mMake 3 m_Book___init__ [] aNil))
(mSeq (mPutFd "next_id" at_next_id (mIx (mVar 0) (mC (.int 0))) (mVar 1))
(mSeq (mSet 2 (mC (.int 3)))
(mSeq (mFor (iOf fRange1 (aCons (mIx (mVar 0) (mC (.int 1))) aNil)) (gN 3)
(mSeq (mAsg (gT 3 (gs1 (gN 4) (gs1 (gN 5) (gs1 (gN 6) gs0)))) (mFz (mSl (mVar 0) (mInt (mVar 2)) (mInt (mOpS pyAdd (mVar 2) (mC (.int 3)))))))
(mSeq (mPutIx (mMake 2 m_Volume___init__ [] (aCons (mFz (mCallD m_name_of [] (aCons (mVar 4) aNil))) (aCons (mVar 5) (aCons (mVar 6) aNil)))) (mFld "volumes" at_volumes (mVar 1)) (mVar 6))
(mAug 2 pyAddI (mC (.int 3))))))
(mSeq (mFor (iOf fRange1 (aCons (mIx (mVar 0) (mC (.int 2))) aNil)) (gN 3)
(mSeq (mAsg (gT 2 (gs1 (gN 7) (gs1 (gN 2) gs0))) (mFz (mCallD m_root_of [] (aCons (mVar 0) (aCons (mVar 2) aNil)))))
(mPutIx (mVar 7) (mFld "roots" at_roots (mVar 1)) (mFld "ident" at_ident (mVar 7)))))
(mRet (mVar 1)))))))⟩
abbrev s_pages_of : Stmt := top 26
theorem sc_pages_of : FnScope ["numbers", "at"] ["numbers"] (defScope s_pages_of) := ⟨rfl, rfl, rfl, by decide +kernel, rfl, by decide +kernel, by decide +kernel⟩
def m_pages_of : DM := ⟨2, [false],
(mRet (mLc [1] (iOf fRange3 (aCons (mC (.int 0)) (aCons (mCB (one pyLenD) (aCons (mVar 0) aNil)) (aCons (mC (.int 60)) aNil)))) (gN 1) (mC (.bl true)) (mCBS (one pyTuple) (aCons (mFz (mSl (mVar 0) (mInt (mVar 1)) (mInt (mOpS pyAdd (mVar 1) (mC (.int 60)))))) aNil))))⟩
abbrev s_need_fitting : Stmt := top 27
theorem sc_need_fitting : FnScope ["book", "many"] ["book"] (defScope s_need_fitting) := ⟨rfl, rfl, rfl, by decide +kernel, rfl, by decide +kernel, by decide +kernel⟩
def m_need_fitting : DM := ⟨2, [false],
(mSeq (mSet 1 (mFz (mCB (one pyLenD) (aCons (mFz (mCallD m_book_numbers [] (aCons (mVar 0) aNil))) aNil))))
(mIfS (mB (mOp pyGt (mVar 1) (mFz (mOpS pyMul (mC (.int 10)) (mC (.int 60))))))
(mRaise 0 (mVar 1))
mNext))⟩
abbrev s_check_of : Stmt := top 31
theorem sc_check_of : FnScope ["numbers", "total", "at", "number"] ["numbers"] (defScope s_check_of) := ⟨rfl, rfl, rfl, by decide +kernel, rfl, by decide +kernel, by decide +kernel⟩
def m_check_of : DM := ⟨4, [false],
(mSeq (mSet 1 (mC (.int 0)))
(mSeq (mFor (iOf fEnum (aCons (mVar 0) aNil)) (gT 2 (gs1 (gN 2) (gs1 (gN 3) gs0)))
(mAug 1 pyAddI (mOpS pyMul (mFz (mOpS pyAdd (mVar 2) (mC (.int 1)))) (mVar 3))))
(mRet (mOp pyMod (mVar 1) (mC (.int 1000003))))))⟩
abbrev s_made_row : Stmt := top 32
theorem sc_made_row : FnScope ["kind", "place", "number", "payload", "ahead"] ["kind", "place", "number", "payload"] (defScope s_made_row) := ⟨rfl, rfl, rfl, by decide +kernel, rfl, by decide +kernel, by decide +kernel⟩
def m_made_row : DM := ⟨5, [false, false, false, false],
(mSeq (mSet 4 (mFz (mOpS pyAdd (mFz (mTup (aCons (mVar 0) (aCons (mVar 1) (aCons (mVar 2) (aCons (mFz (mCB (one pyLenD) (aCons (mVar 3) aNil))) aNil)))))) (mFz (mCBS (one pyTuple) (aCons (mVar 3) aNil))))))
(mRet (mOpS pyAdd (mVar 4) (mFz (mTup (aCons (mFz (mCallD m_check_of [] (aCons (mVar 4) aNil))) aNil))))))⟩
abbrev s_page_rows : Stmt := top 34
theorem sc_page_rows : FnScope ["area", "number", "numbers", "found", "at", "page", "place"] ["area", "number", "numbers"] (defScope s_page_rows) := ⟨rfl, rfl, rfl, by decide +kernel, rfl, by decide +kernel, by decide +kernel⟩
def m_page_rows : DM := ⟨7, [false, false, false],
(mSeq (mSet 3 (mLst aNil))
(mSeq (mFor (iOf fEnum (aCons (mCallD m_pages_of [] (aCons (mVar 2) aNil)) aNil)) (gT 2 (gs1 (gN 4) (gs1 (gN 5) gs0)))
(mSeq (mSet 6 (mFz (mCallD m_page_place [] (aCons (mVar 0) (aCons (mFz (mOpS pyAdd (mVar 4) (mC (.int 1)))) aNil)))))
(mDrop (mBM "list" opAppend (mVar 3) (aCons (mTup (aCons (mVar 6) (aCons (mFz (mCallD m_made_row [] (aCons (mC (.int 2)) (aCons (mVar 6) (aCons (mVar 1) (aCons (mVar 5) aNil)))))) aNil))) aNil)))))
(mRet (mVar 3))))⟩
abbrev s__law_pool : Stmt := top 36
theorem sc__law_pool : FnScope ["_law_script", "_law_k", "_law_cell", "_law_big", "_law_mixed"] ["_law_script", "_law_k"] (defScope s__law_pool) := ⟨rfl, rfl, rfl, by decide +kernel, rfl, by decide +kernel, by decide +kernel⟩
def m__law_pool : DM := ⟨5, [false, false],
(mSeq (mSet 2 (mC (.int 0)))
(mSeq (mIfS (mB (mOp pyLt (mVar 1) (mFz (mCB (one pyLenD) (aCons (mVar 0) aNil)))))
(mSet 2 (mIx (mVar 0) (mVar 1)))
mNext)
(mSeq (mSet 3 (mFz (mCB (two (pyI2 max2)) (aCons (mFz (mCB (one pyToInt) (aCons (mVar 2) aNil))) (aCons (mFz (mCB (one pyToInt) (aCons (mFz (mOp pySub (mUn pyNeg (mC (.int 1))) (mVar 2))) aNil))) aNil)))))
(mSeq (mSet 4 (mFz (mOp pyMod (mFz (mCB (one pyToInt) (aCons (mFz (mOpS pyMul (mFz (mOpS pyAdd (mFz (mOpS pyAdd (mFz (mOpS pyAdd (mFz (mOp pyMod (mFz (mCB (one pyToInt) (aCons (mVar 3) aNil))) (mC (.int 2147483629)))) (mFz (mOpS pyMul (mFz (mOpS pyMul (mC (.int 7919)) (mVar 1))) (mVar 1))))) (mFz (mOpS pyMul (mC (.int 31)) (mVar 1))))) (mC (.int 17)))) (mC (.int 48271)))) aNil))) (mC (.int 2147483647)))))
(mRet (mLst (aCons (mOpS pyMul (mVar 3) (mFz (mCB (one pyToInt) (aCons (mOp pyGe (mVar 3) (mFz (mOp pyPow (mC (.int 10)) (mC (.int 18))))) aNil)))) (aCons (mVar 4) aNil))))))))⟩
abbrev s__law_take : Stmt := top 37
theorem sc__law_take : FnScope ["_law_source", "_law_top_it", "_law_drawn"] ["_law_source", "_law_top_it"] (defScope s__law_take) := ⟨rfl, rfl, rfl, by decide +kernel, rfl, by decide +kernel, by decide +kernel⟩
def m__law_take : DM := ⟨3, [true, false],
(mSeq (mIfS (mB (mOp pyGt (mIx (mVar 0) (mC (.int 0))) (mC (.int 0))))
(mSeq (mSet 2 (mFz (mOp pyMod (mFz (mCB (one pyToInt) (aCons (mIx (mVar 0) (mC (.int 0))) aNil))) (mVar 1))))
(mSeq (mPutIx (mOp pyDiv (mIx (mVar 0) (mC (.int 0))) (mVar 1)) (mVar 0) (mC (.int 0)))
(mRet (mVar 2))))
mNext)
(mSeq (mPutIx (mOp pyMod (mFz (mCB (one pyToInt) (aCons (mFz (mOpS pyAdd (mFz (mOpS pyMul (mIx (mVar 0) (mC (.int 1))) (mC (.int 39373)))) (mC (.int 7)))) aNil))) (mC (.int 2147483647))) (mVar 0) (mC (.int 1)))
(mRet (mOp pyMod (mFz (mCB (one pyToInt) (aCons (mFz (mOp pyDiv (mFz (mOp pyMod (mFz (mCB (one pyToInt) (aCons (mFz (mOpS pyMul (mIx (mVar 0) (mC (.int 1))) (mIx (mVar 0) (mC (.int 1))))) aNil))) (mC (.int 2147483629)))) (mC (.int 32)))) aNil))) (mVar 1)))))⟩
abbrev s__law_one : Stmt := top 38
theorem sc__law_one : FnScope ["_law_source", "_law_things"] ["_law_source", "_law_things"] (defScope s__law_one) := ⟨rfl, rfl, rfl, by decide +kernel, rfl, by decide +kernel, by decide +kernel⟩
def m__law_one : DM := ⟨2, [true, false],
(mRet (mIx (mVar 1) (mCallD m__law_take [] (aCons (mVar 0) (aCons (mFz (mCB (one pyLenD) (aCons (mVar 1) aNil))) aNil)))))⟩
abbrev s__law_numbers : Stmt := top 39
theorem sc__law_numbers : FnScope ["_law_many", "_law_heads", "_law_dead", "_law_found", "_law_head", "_law_at"] ["_law_many"] (defScope s__law_numbers) := ⟨rfl, rfl, rfl, by decide +kernel, rfl, by decide +kernel, by decide +kernel⟩
def m__law_numbers : DM := ⟨6, [false],
(mSeq (mIfS (mB (mOp pyLt (mVar 0) (mC (.int 16))))
(mRet (mTup (aCons (mC (.int 7)) (aCons (mC (.int 0)) (aCons (mC (.int 0)) aNil)))))
mNext)
(mSeq (mSet 1 (mFz (mIf (mB (mOp pyEq (mFz (mOp pyMod (mFz (mCB (one pyToInt) (aCons (mVar 0) aNil))) (mC (.int 2)))) (mC (.int 0)))) (mC (.int 1)) (mC (.int 2)))))
(mSeq (mSet 2 (mFz (mOp pyDiv (mFz (mOp pySub (mFz (mOp pySub (mVar 0) (mC (.int 3)))) (mFz (mOpS pyMul (mC (.int 13)) (mVar 1))))) (mC (.int 2)))))
(mSeq (mSet 3 (mLst (aCons (mOpS pyAdd (mVar 1) (mC (.int 1))) (aCons (mVar 1) (aCons (mVar 1) aNil)))))
(mSeq (mFor (iOf fRange2 (aCons (mC (.int 1)) (aCons (mOpS pyAdd (mVar 1) (mC (.int 1))) aNil))) (gN 4)
(mSet 3 (mOpS pyAdd (mVar 3) (mFz (mLst (aCons (mVar 4) (aCons (mC (.int 0)) (aCons (mVar 4) aNil))))))))
(mSeq (mFor (iOf fRange2 (aCons (mC (.int 1)) (aCons (mOpS pyAdd (mVar 1) (mC (.int 1))) aNil))) (gN 4)
(mSeq (mSet 3 (mOpS pyAdd (mVar 3) (mFz (mLst (aCons (mVar 4) (aCons (mVar 4) (aCons (mC (.int 0)) (aCons (mC (.int 0)) (aCons (mC (.int 0)) (aCons (mC (.int 0)) (aCons (mC (.int 0)) (aCons (mOpS pyAdd (mC (.int 41)) (mVar 4)) (aCons (mC (.int 5)) (aCons (mIf (mB (mOp pyEq (mVar 4) (mC (.int 1)))) (mVar 2) (mC (.int 0))) aNil))))))))))))))
(mIfS (mB (mOp pyEq (mVar 4) (mC (.int 1))))
(mFor (iOf fRange1 (aCons (mVar 2) aNil)) (gN 5)
(mDrop (mBM "list" opExtA (mVar 3) (aCons (mLst (aCons (mOpS pyAdd (mC (.int 41)) (mVar 5)) (aCons (mOpS pyAdd (mC (.int 1)) (mVar 5)) aNil))) aNil))))
mNext)))
(mRet (mCBS (one pyTuple) (aCons (mVar 3) aNil)))))))))⟩
abbrev s__law_fitting : Stmt := top 40
theorem sc__law_fitting : FnScope ["_law_book", "e"] ["_law_book"] (defScope s__law_fitting) := ⟨rfl, rfl, rfl, by decide +kernel, rfl, by decide +kernel, by decide +kernel⟩
def m__law_fitting : DM := ⟨2, [false],
(mSeq (mTryR 1 [0] 1
(mRet (mAnd (mOp pyIs (mFz (mCallD m_need_fitting [] (aCons (mVar 0) aNil))) (mC .non)) (mTup (aCons (mC (.str "fits")) aNil))))
 (fun c w => (mTup (aCons (mC (.str "full")) (aCons (mC w) (aCons (mFz (mAnd (mC (.bl (is_Refused c))) (mAnd (mC (.bl (is_ValueError c))) (mNot (mC (.bl (is_NoRoom c))))))) aNil)))))) mNext)⟩
abbrev s__law_size : Stmt := top 41
theorem sc__law_size : FnScope ["_law_source", "_law_many"] ["_law_source"] (defScope s__law_size) := ⟨rfl, rfl, rfl, by decide +kernel, rfl, by decide +kernel, by decide +kernel⟩
def m__law_size : DM := ⟨2, [true],
(mSeq (mSet 1 (mFz (mCallD m__law_one [] (aCons (mVar 0) (aCons (mFz (mLst (aCons (mC (.int 3)) (aCons (mC (.int 16)) (aCons (mC (.int 59)) (aCons (mC (.int 60)) (aCons (mC (.int 61)) (aCons (mC (.int 119)) (aCons (mC (.int 120)) (aCons (mC (.int 121)) (aCons (mC (.int 540)) (aCons (mC (.int 598)) (aCons (mC (.int 599)) (aCons (mC (.int 600)) (aCons (mC (.int 601)) (aCons (mC (.int 602)) (aCons (mC (.int 600)) (aCons (mC (.int 601)) (aCons (mOpS pyAdd (mC (.int 16)) (mFz (mCallD m__law_take [] (aCons (mVar 0) (aCons (mC (.int 625)) aNil))))) aNil))))))))))))))))))) aNil)))))
(mRet (mIf (mAndT (mB (mOp pyGt (mVar 1) (mC (.int 16)))) (mAndT (mB (mOp pyLt (mVar 1) (mC (.int 29)))) (mB (mOp pyEq (mFz (mOp pyMod (mFz (mCB (one pyToInt) (aCons (mVar 1) aNil))) (mC (.int 2)))) (mC (.int 1)))))) (mOpS pyAdd (mVar 1) (mC (.int 2))) (mVar 1))))⟩
abbrev s_law : Stmt := top 42
theorem sc_law : FnScope ["_law_script", "_law_k", "_law_source", "_law_many", "_law_numbers_here", "_law_book", "_law_pages", "_law_flat", "_law_page", "_law_at", "_law_spot", "_law_row"] ["_law_script"] (defScope s_law) := ⟨rfl, rfl, rfl, by decide +kernel, rfl, by decide +kernel, by decide +kernel⟩
def m_law : DM := ⟨12, [false],
(mSeq (mFor (iOf fRange1 (aCons (mCB (two (pyI2 max2)) (aCons (mC (.int 1)) (aCons (mFz (mCB (two (pyI2 min2)) (aCons (mFz (mCB (one pyLenD) (aCons (mVar 0) aNil))) (aCons (mC (.int 2)) aNil)))) aNil))) aNil)) (gN 1)
(mSeq (mSet 2 (mCallD m__law_pool [] (aCons (mVar 0) (aCons (mVar 1) aNil))))
(mSeq (mSet 3 (mFz (mCallD m__law_size [] (aCons (mVar 2) aNil))))
(mSeq (mSet 3 (mFz (mIf (mAndT (mB (mOp pyLt (mVar 3) (mC (.int 29)))) (mAndT (mB (mOp pyGt (mVar 3) (mC (.int 16)))) (mB (mOp pyEq (mFz (mOp pyMod (mFz (mCB (one pyToInt) (aCons (mVar 3) aNil))) (mC (.int 2)))) (mC (.int 1)))))) (mC (.int 29)) (mVar 3))))
(mSeq (mSet 4 (mFz (mCallD m__law_numbers [] (aCons (mVar 3) aNil))))
(mSeq (mSet 5 (mFz (mCallD m_book_of [] (aCons (mVar 4) aNil))))
(mSeq (mIfS (mOrT (mB (mOp pyNe (mFz (mCB (one pyLenD) (aCons (mVar 4) aNil))) (mVar 3))) (mB (mOp pyNe (mFz (mCallD m_book_numbers [] (aCons (mVar 5) aNil))) (mVar 4))))
(mRet (mC (.bl false)))
mNext)
(mSeq (mIfS (mB (mOp pyNe (mFz (mCallD m__law_fitting [] (aCons (mVar 5) aNil))) (mFz (mIf (mB (mOp pyLe (mVar 3) (mC (.int 600)))) (mTup (aCons (mC (.str "fits")) aNil)) (mTup (aCons (mC (.str "full")) (aCons (mVar 3) (aCons (mC (.bl true)) aNil))))))))
(mRet (mC (.bl false)))
mNext)
(mSeq (mSet 6 (mFz (mIf (mB (mOp pyLe (mVar 3) (mC (.int 600)))) (mCallD m_pages_of [] (aCons (mVar 4) aNil)) (mLc [9] (iOf fRange3 (aCons (mC (.int 0)) (aCons (mVar 3) (aCons (mC (.int 60)) aNil)))) (gN 9) (mC (.bl true)) (mSl (mVar 4) (mInt (mVar 9)) (mInt (mOpS pyAdd (mVar 9) (mC (.int 60)))))))))
(mSeq (mIfS (mOrT (mB (mOp pyNe (mFz (mLc [8] (iAny (mSl (mVar 6) (mC .non) (mInt (mUn pyNeg (mC (.int 1)))))) (gN 8) (mC (.bl true)) (mCB (one pyLenD) (aCons (mVar 8) aNil)))) (mFz (mOpS pyMul (mFz (mLst (aCons (mC (.int 60)) aNil))) (mFz (mOp pyDiv (mFz (mOp pySub (mVar 3) (mC (.int 1)))) (mC (.int 60)))))))) (mB (mOp pyNe (mFz (mCB (one pyLenD) (aCons (mIx (mVar 6) (mUn pyNeg (mC (.int 1)))) aNil))) (mFz (mOp pySub (mVar 3) (mFz (mOpS pyMul (mC (.int 60)) (mFz (mOp pyDiv (mFz (mOp pySub (mVar 3) (mC (.int 1)))) (mC (.int 60)))))))))))
(mRet (mC (.bl false)))
mNext)
(mSeq (mSet 7 (mLst aNil))
(mSeq (mFor (iAny (mVar 6)) (gN 8)
(mDrop (mBM "list" opExtA (mVar 7) (aCons (mVar 8) aNil))))
(mSeq (mIfS (mOrT (mB (mOp pyNe (mFz (mCBS (one pyTuple) (aCons (mVar 7) aNil))) (mVar 4))) (mB (mOp pyNe (mFz (mCallD m__law_fitting [] (aCons (mVar 5) aNil))) (mFz (mIf (mB (mOp pyLe (mVar 3) (mC (.int 600)))) (mTup (aCons (mC (.str "fits")) aNil)) (mTup (aCons (mC (.str "full")) (aCons (mVar 3) (aCons (mC (.bl true)) aNil)))))))))
(mRet (mC (.bl false)))
mNext)
(mSeq (mIfS (mOrT (mB (mOp pyNe (mFz (mCallD m_book_numbers [] (aCons (mVar 5) aNil))) (mVar 4))) (mB (mOp pyNe (mFz (mCallD m__law_fitting [] (aCons (mVar 5) aNil))) (mFz (mIf (mB (mOp pyLe (mVar 3) (mC (.int 600)))) (mTup (aCons (mC (.str "fits")) aNil)) (mTup (aCons (mC (.str "full")) (aCons (mVar 3) (aCons (mC (.bl true)) aNil)))))))))
(mRet (mC (.bl false)))
mNext)
(mIfS (mAndT (mB (mOp pyLe (mVar 3) (mC (.int 600)))) (mB (mOp pyNe (mFz (mLc [10, 11] (iAny (mCallD m_page_rows [] (aCons (mC (.int 1)) (aCons (mC (.int 9)) (aCons (mVar 4) aNil))))) (gT 2 (gs1 (gN 10) (gs1 (gN 11) gs0))) (mC (.bl true)) (mSl (mVar 11) (mInt (mC (.int 4))) (mInt (mUn pyNeg (mC (.int 1))))))) (mVar 6))))
(mRet (mC (.bl false)))
mNext)))))))))))))))
(mRet (mC (.bl true))))⟩
structure Ad where
  f_page_place : Addr
  d_page_place : FuncData
  f_name_number : Addr
  d_name_number : FuncData
  f_name_of : Addr
  d_name_of : FuncData
  f_root_numbers : Addr
  d_root_numbers : FuncData
  f_book_numbers : Addr
  d_book_numbers : FuncData
  f_Root___init__ : Addr
  d_Root___init__ : FuncData
  f_root_of : Addr
  d_root_of : FuncData
  f_Volume___init__ : Addr
  d_Volume___init__ : FuncData
  f_Book___init__ : Addr
  d_Book___init__ : FuncData
  f_book_of : Addr
  d_book_of : FuncData
  f_pages_of : Addr
  d_pages_of : FuncData
  f_need_fitting : Addr
  d_need_fitting : FuncData
  f_check_of : Addr
  d_check_of : FuncData
  f_made_row : Addr
  d_made_row : FuncData
  f_page_rows : Addr
  d_page_rows : FuncData
  f__law_pool : Addr
  d__law_pool : FuncData
  f__law_take : Addr
  d__law_take : FuncData
  f__law_one : Addr
  d__law_one : FuncData
  f__law_numbers : Addr
  d__law_numbers : FuncData
  f__law_fitting : Addr
  d__law_fitting : FuncData
  f__law_size : Addr
  d__law_size : FuncData
  f_law : Addr
  d_law : FuncData
  t_AREA_CELLS : Tok
  t_BASE : Tok
  t_LETTERS : Tok
  t_MODULUS : Tok
  t_PAGE : Tok
  t_PAGES : Tok
  t_PAGE_NUMBERS : Tok
  t_ROOT_NUMBERS : Tok
  t_VOLUME_NUMBERS : Tok
  c_Refused : Addr
  c_NoRoom : Addr
  c_BookFull : Addr
  c_Root : Addr
  c_Volume : Addr
  c_Book : Addr
  fI : Addr
def tb (K : PySem.W.Frag) (A : Ad) : Tb := { K := K, cls := fun c => ([A.c_BookFull, A.c_Root, A.c_Volume, A.c_Book] : List Addr).getD c 0 }
instance {K : PySem.W.Frag} {A : Ad} : NoSg (tb K A) := ⟨rfl⟩
theorem cls_in {K : PySem.W.Frag} {A : Ad} {c : Nat} (h : c < 1) : (tb K A).cls c ∈ ([A.c_BookFull] : List Addr) := match c, h with | 0, _ => by simp [tb] | n + 1, h => absurd h (by omega)
structure Txt (K : PySem.W.Frag) (mg : Str → Option Value) (A : Ad) : Prop where
  F_page_place : Fun K "page_place" "page_place" s_page_place A.f_page_place A.d_page_place
  B_page_place : Binds K A.d_page_place ["area", "i"] []
  g_page_place : mg "page_place" = some (.ref A.f_page_place)
  F_name_number : Fun K "name_number" "name_number" s_name_number A.f_name_number A.d_name_number
  B_name_number : Binds K A.d_name_number ["name"] []
  g_name_number : mg "name_number" = some (.ref A.f_name_number)
  F_name_of : Fun K "name_of" "name_of" s_name_of A.f_name_of A.d_name_of
  B_name_of : Binds K A.d_name_of ["number"] []
  g_name_of : mg "name_of" = some (.ref A.f_name_of)
  F_root_numbers : Fun K "root_numbers" "root_numbers" s_root_numbers A.f_root_numbers A.d_root_numbers
  B_root_numbers : Binds K A.d_root_numbers ["root"] []
  g_root_numbers : mg "root_numbers" = some (.ref A.f_root_numbers)
  F_book_numbers : Fun K "book_numbers" "book_numbers" s_book_numbers A.f_book_numbers A.d_book_numbers
  B_book_numbers : Binds K A.d_book_numbers ["book"] []
  g_book_numbers : mg "book_numbers" = some (.ref A.f_book_numbers)
  F_Root___init__ : Fun K "__init__" "Root.__init__" s_Root___init__ A.f_Root___init__ A.d_Root___init__
  B_Root___init__ : Binds K A.d_Root___init__ ["self", "ident", "volume", "snap", "prev", "time", "mark", "top", "dead"] []
  mk_Root : Mk K A.c_Root A.f_Root___init__
  F_root_of : Fun K "root_of" "root_of" s_root_of A.f_root_of A.d_root_of
  B_root_of : Binds K A.d_root_of ["numbers", "at"] []
  g_root_of : mg "root_of" = some (.ref A.f_root_of)
  F_Volume___init__ : Fun K "__init__" "Volume.__init__" s_Volume___init__ A.f_Volume___init__ A.d_Volume___init__
  B_Volume___init__ : Binds K A.d_Volume___init__ ["self", "name", "quota", "head"] []
  mk_Volume : Mk K A.c_Volume A.f_Volume___init__
  F_Book___init__ : Fun K "__init__" "Book.__init__" s_Book___init__ A.f_Book___init__ A.d_Book___init__
  B_Book___init__ : Binds K A.d_Book___init__ ["self"] []
  mk_Book : Mk K A.c_Book A.f_Book___init__
  F_book_of : Fun K "book_of" "book_of" s_book_of A.f_book_of A.d_book_of
  B_book_of : Binds K A.d_book_of ["numbers"] []
  g_book_of : mg "book_of" = some (.ref A.f_book_of)
  F_pages_of : Fun K "pages_of" "pages_of" s_pages_of A.f_pages_of A.d_pages_of
  B_pages_of : Binds K A.d_pages_of ["numbers"] []
  g_pages_of : mg "pages_of" = some (.ref A.f_pages_of)
  F_need_fitting : Fun K "need_fitting" "need_fitting" s_need_fitting A.f_need_fitting A.d_need_fitting
  B_need_fitting : Binds K A.d_need_fitting ["book"] []
  g_need_fitting : mg "need_fitting" = some (.ref A.f_need_fitting)
  F_check_of : Fun K "check_of" "check_of" s_check_of A.f_check_of A.d_check_of
  B_check_of : Binds K A.d_check_of ["numbers"] []
  g_check_of : mg "check_of" = some (.ref A.f_check_of)
  F_made_row : Fun K "made_row" "made_row" s_made_row A.f_made_row A.d_made_row
  B_made_row : Binds K A.d_made_row ["kind", "place", "number", "payload"] []
  g_made_row : mg "made_row" = some (.ref A.f_made_row)
  F_page_rows : Fun K "page_rows" "page_rows" s_page_rows A.f_page_rows A.d_page_rows
  B_page_rows : Binds K A.d_page_rows ["area", "number", "numbers"] []
  g_page_rows : mg "page_rows" = some (.ref A.f_page_rows)
  F__law_pool : Fun K "_law_pool" "_law_pool" s__law_pool A.f__law_pool A.d__law_pool
  B__law_pool : Binds K A.d__law_pool ["_law_script", "_law_k"] []
  g__law_pool : mg "_law_pool" = some (.ref A.f__law_pool)
  F__law_take : Fun K "_law_take" "_law_take" s__law_take A.f__law_take A.d__law_take
  B__law_take : Binds K A.d__law_take ["_law_source", "_law_top_it"] []
  g__law_take : mg "_law_take" = some (.ref A.f__law_take)
  F__law_one : Fun K "_law_one" "_law_one" s__law_one A.f__law_one A.d__law_one
  B__law_one : Binds K A.d__law_one ["_law_source", "_law_things"] []
  g__law_one : mg "_law_one" = some (.ref A.f__law_one)
  F__law_numbers : Fun K "_law_numbers" "_law_numbers" s__law_numbers A.f__law_numbers A.d__law_numbers
  B__law_numbers : Binds K A.d__law_numbers ["_law_many"] []
  g__law_numbers : mg "_law_numbers" = some (.ref A.f__law_numbers)
  F__law_fitting : Fun K "_law_fitting" "_law_fitting" s__law_fitting A.f__law_fitting A.d__law_fitting
  B__law_fitting : Binds K A.d__law_fitting ["_law_book"] []
  g__law_fitting : mg "_law_fitting" = some (.ref A.f__law_fitting)
  F__law_size : Fun K "_law_size" "_law_size" s__law_size A.f__law_size A.d__law_size
  B__law_size : Binds K A.d__law_size ["_law_source"] []
  g__law_size : mg "_law_size" = some (.ref A.f__law_size)
  F_law : Fun K "law" "law" s_law A.f_law A.d_law
  B_law : Binds K A.d_law ["_law_script"] []
  g_law : mg "law" = some (.ref A.f_law)
  g_Root : mg "Root" = some (.ref A.c_Root)
  cl_Root : Cls K A.c_Root
  g_Volume : mg "Volume" = some (.ref A.c_Volume)
  cl_Volume : Cls K A.c_Volume
  g_Book : mg "Book" = some (.ref A.c_Book)
  cl_Book : Cls K A.c_Book
  na_Root_dead : NoAttr K A.c_Root "dead"
  na_Volume_head : NoAttr K A.c_Volume "head"
  na_Root_ident : NoAttr K A.c_Root "ident"
  na_Root_mark : NoAttr K A.c_Root "mark"
  na_Volume_name : NoAttr K A.c_Volume "name"
  na_Book_next_id : NoAttr K A.c_Book "next_id"
  na_Root_prev : NoAttr K A.c_Root "prev"
  na_Volume_quota : NoAttr K A.c_Volume "quota"
  na_Book_roots : NoAttr K A.c_Book "roots"
  na_Root_snap : NoAttr K A.c_Root "snap"
  na_Root_time : NoAttr K A.c_Root "time"
  na_Root_top : NoAttr K A.c_Root "top"
  na_Root_volume : NoAttr K A.c_Root "volume"
  na_Book_volumes : NoAttr K A.c_Book "volumes"
  g_AREA_CELLS : mg "AREA_CELLS" = some (.int 11 A.t_AREA_CELLS)
  g_BASE : mg "BASE" = some (.int 27 A.t_BASE)
  g_LETTERS : mg "LETTERS" = some (.str "abcdefghijklmnopqrstuvwxyz" A.t_LETTERS)
  g_MODULUS : mg "MODULUS" = some (.int 1000003 A.t_MODULUS)
  g_PAGE : mg "PAGE" = some (.int 2 A.t_PAGE)
  g_PAGES : mg "PAGES" = some (.int 10 A.t_PAGES)
  g_PAGE_NUMBERS : mg "PAGE_NUMBERS" = some (.int 60 A.t_PAGE_NUMBERS)
  g_ROOT_NUMBERS : mg "ROOT_NUMBERS" = some (.int 10 A.t_ROOT_NUMBERS)
  g_VOLUME_NUMBERS : mg "VOLUME_NUMBERS" = some (.int 3 A.t_VOLUME_NUMBERS)
  b_ValueError : mg "ValueError" = none
  b_enumerate : mg "enumerate" = none
  b_int : mg "int" = none
  b_isinstance : mg "isinstance" = none
  b_len : mg "len" = none
  b_list : mg "list" = none
  b_max : mg "max" = none
  b_min : mg "min" = none
  b_range : mg "range" = none
  b_sorted : mg "sorted" = none
  b_tuple : mg "tuple" = none
  g_Refused : mg "Refused" = some (.ref A.c_Refused)
  g_NoRoom : mg "NoRoom" = some (.ref A.c_NoRoom)
  g_BookFull : mg "BookFull" = some (.ref A.c_BookFull)
  x_BookFull : PySem.ExX.ExTxt K mg "BookFull" A.c_BookFull A.fI
  exs : ∀ C ∈ ([A.c_BookFull] : List Addr), ∃ nx fI, PySem.ExX.ExTxt K mg nx C fI
  iss : ∀ C ∈ ([A.c_BookFull] : List Addr), ExIs K C
  m_BookFull : ∀ c, c < 1 → PySem.W.exmOne K (.ref ((tb K A).cls c)) (.ref A.c_BookFull) = some (([0] : List Nat).contains c)
  k_NoRoom : ∀ c, c < 1 → PySem.W.kitOne K (.ref ((tb K A).cls c)) (.ref A.c_NoRoom) = some (is_NoRoom c)
  k_Refused : ∀ c, c < 1 → PySem.W.kitOne K (.ref ((tb K A).cls c)) (.ref A.c_Refused) = some (is_Refused c)
  k_ValueError : ∀ c, c < 1 → PySem.W.kitOne K (.ref ((tb K A).cls c)) (.type "ValueError") = some (is_ValueError c)
section
variable {P : Program} {w : World} {K : PySem.W.Frag} {mg : Str → Option Value} {base : Heap} {A : Ad}
theorem at_dead_1 : at_dead 1 = true := nr rfl
theorem at_head_2 : at_head 2 = true := nr rfl
theorem at_ident_1 : at_ident 1 = true := nr rfl
theorem at_mark_1 : at_mark 1 = true := nr rfl
theorem at_name_2 : at_name 2 = true := nr rfl
theorem at_next_id_3 : at_next_id 3 = true := nr rfl
theorem at_prev_1 : at_prev 1 = true := nr rfl
theorem at_quota_2 : at_quota 2 = true := nr rfl
theorem at_roots_3 : at_roots 3 = true := nr rfl
theorem at_snap_1 : at_snap 1 = true := nr rfl
theorem at_time_1 : at_time 1 = true := nr rfl
theorem at_top_1 : at_top 1 = true := nr rfl
theorem at_volume_1 : at_volume 1 = true := nr rfl
theorem at_volumes_3 : at_volumes 3 = true := nr rfl
theorem ix_Root_ident : ixOf (["ident", "volume", "snap", "prev", "time", "mark", "top", "dead"] : List Str) "ident" = some 0 := by decide +kernel
theorem in_Root_ident : ixOf ([] : List Str) "ident" = none := by decide +kernel
theorem ix_Root_volume : ixOf (["ident", "volume", "snap", "prev", "time", "mark", "top", "dead"] : List Str) "volume" = some 1 := by decide +kernel
theorem in_Root_volume : ixOf (["ident"] : List Str) "volume" = none := by decide +kernel
theorem ix_Root_snap : ixOf (["ident", "volume", "snap", "prev", "time", "mark", "top", "dead"] : List Str) "snap" = some 2 := by decide +kernel
theorem in_Root_snap : ixOf (["ident", "volume"] : List Str) "snap" = none := by decide +kernel
theorem ix_Root_prev : ixOf (["ident", "volume", "snap", "prev", "time", "mark", "top", "dead"] : List Str) "prev" = some 3 := by decide +kernel
theorem in_Root_prev : ixOf (["ident", "volume", "snap"] : List Str) "prev" = none := by decide +kernel
theorem ix_Root_time : ixOf (["ident", "volume", "snap", "prev", "time", "mark", "top", "dead"] : List Str) "time" = some 4 := by decide +kernel
theorem in_Root_time : ixOf (["ident", "volume", "snap", "prev"] : List Str) "time" = none := by decide +kernel
theorem ix_Root_mark : ixOf (["ident", "volume", "snap", "prev", "time", "mark", "top", "dead"] : List Str) "mark" = some 5 := by decide +kernel
theorem in_Root_mark : ixOf (["ident", "volume", "snap", "prev", "time"] : List Str) "mark" = none := by decide +kernel
theorem ix_Root_top : ixOf (["ident", "volume", "snap", "prev", "time", "mark", "top", "dead"] : List Str) "top" = some 6 := by decide +kernel
theorem in_Root_top : ixOf (["ident", "volume", "snap", "prev", "time", "mark"] : List Str) "top" = none := by decide +kernel
theorem ix_Root_dead : ixOf (["ident", "volume", "snap", "prev", "time", "mark", "top", "dead"] : List Str) "dead" = some 7 := by decide +kernel
theorem in_Root_dead : ixOf (["ident", "volume", "snap", "prev", "time", "mark", "top"] : List Str) "dead" = none := by decide +kernel
theorem ix_Volume_name : ixOf (["name", "quota", "head"] : List Str) "name" = some 0 := by decide +kernel
theorem in_Volume_name : ixOf ([] : List Str) "name" = none := by decide +kernel
theorem ix_Volume_quota : ixOf (["name", "quota", "head"] : List Str) "quota" = some 1 := by decide +kernel
theorem in_Volume_quota : ixOf (["name"] : List Str) "quota" = none := by decide +kernel
theorem ix_Volume_head : ixOf (["name", "quota", "head"] : List Str) "head" = some 2 := by decide +kernel
theorem in_Volume_head : ixOf (["name", "quota"] : List Str) "head" = none := by decide +kernel
theorem ix_Book_next_id : ixOf (["next_id", "volumes", "roots"] : List Str) "next_id" = some 0 := by decide +kernel
theorem in_Book_next_id : ixOf ([] : List Str) "next_id" = none := by decide +kernel
theorem ix_Book_volumes : ixOf (["next_id", "volumes", "roots"] : List Str) "volumes" = some 1 := by decide +kernel
theorem in_Book_volumes : ixOf (["next_id"] : List Str) "volumes" = none := by decide +kernel
theorem ix_Book_roots : ixOf (["next_id", "volumes", "roots"] : List Str) "roots" = some 2 := by decide +kernel
theorem in_Book_roots : ixOf (["next_id", "volumes"] : List Str) "roots" = none := by decide +kernel
theorem hc_dead (T : Txt K mg A) : ∀ c, at_dead c = true → Cls K ((tb K A).cls c) ∧ NoAttr K ((tb K A).cls c) "dead" := fun c h => match c, h with | 0, h => nomatch (show false = true from h) | 1, h => ⟨T.cl_Root, T.na_Root_dead⟩ | 2, h => nomatch (show false = true from h) | 3, h => nomatch (show false = true from h) | n + 4, h => nomatch (show false = true from h)
theorem hc_head (T : Txt K mg A) : ∀ c, at_head c = true → Cls K ((tb K A).cls c) ∧ NoAttr K ((tb K A).cls c) "head" := fun c h => match c, h with | 0, h => nomatch (show false = true from h) | 1, h => nomatch (show false = true from h) | 2, h => ⟨T.cl_Volume, T.na_Volume_head⟩ | 3, h => nomatch (show false = true from h) | n + 4, h => nomatch (show false = true from h)
theorem hc_ident (T : Txt K mg A) : ∀ c, at_ident c = true → Cls K ((tb K A).cls c) ∧ NoAttr K ((tb K A).cls c) "ident" := fun c h => match c, h with | 0, h => nomatch (show false = true from h) | 1, h => ⟨T.cl_Root, T.na_Root_ident⟩ | 2, h => nomatch (show false = true from h) | 3, h => nomatch (show false = true from h) | n + 4, h => nomatch (show false = true from h)
theorem hc_mark (T : Txt K mg A) : ∀ c, at_mark c = true → Cls K ((tb K A).cls c) ∧ NoAttr K ((tb K A).cls c) "mark" := fun c h => match c, h with | 0, h => nomatch (show false = true from h) | 1, h => ⟨T.cl_Root, T.na_Root_mark⟩ | 2, h => nomatch (show false = true from h) | 3, h => nomatch (show false = true from h) | n + 4, h => nomatch (show false = true from h)
theorem hc_name (T : Txt K mg A) : ∀ c, at_name c = true → Cls K ((tb K A).cls c) ∧ NoAttr K ((tb K A).cls c) "name" := fun c h => match c, h with | 0, h => nomatch (show false = true from h) | 1, h => nomatch (show false = true from h) | 2, h => ⟨T.cl_Volume, T.na_Volume_name⟩ | 3, h => nomatch (show false = true from h) | n + 4, h => nomatch (show false = true from h)
theorem hc_next_id (T : Txt K mg A) : ∀ c, at_next_id c = true → Cls K ((tb K A).cls c) ∧ NoAttr K ((tb K A).cls c) "next_id" := fun c h => match c, h with | 0, h => nomatch (show false = true from h) | 1, h => nomatch (show false = true from h) | 2, h => nomatch (show false = true from h) | 3, h => ⟨T.cl_Book, T.na_Book_next_id⟩ | n + 4, h => nomatch (show false = true from h)
theorem hc_prev (T : Txt K mg A) : ∀ c, at_prev c = true → Cls K ((tb K A).cls c) ∧ NoAttr K ((tb K A).cls c) "prev" := fun c h => match c, h with | 0, h => nomatch (show false = true from h) | 1, h => ⟨T.cl_Root, T.na_Root_prev⟩ | 2, h => nomatch (show false = true from h) | 3, h => nomatch (show false = true from h) | n + 4, h => nomatch (show false = true from h)
theorem hc_quota (T : Txt K mg A) : ∀ c, at_quota c = true → Cls K ((tb K A).cls c) ∧ NoAttr K ((tb K A).cls c) "quota" := fun c h => match c, h with | 0, h => nomatch (show false = true from h) | 1, h => nomatch (show false = true from h) | 2, h => ⟨T.cl_Volume, T.na_Volume_quota⟩ | 3, h => nomatch (show false = true from h) | n + 4, h => nomatch (show false = true from h)
theorem hc_roots (T : Txt K mg A) : ∀ c, at_roots c = true → Cls K ((tb K A).cls c) ∧ NoAttr K ((tb K A).cls c) "roots" := fun c h => match c, h with | 0, h => nomatch (show false = true from h) | 1, h => nomatch (show false = true from h) | 2, h => nomatch (show false = true from h) | 3, h => ⟨T.cl_Book, T.na_Book_roots⟩ | n + 4, h => nomatch (show false = true from h)
theorem hc_snap (T : Txt K mg A) : ∀ c, at_snap c = true → Cls K ((tb K A).cls c) ∧ NoAttr K ((tb K A).cls c) "snap" := fun c h => match c, h with | 0, h => nomatch (show false = true from h) | 1, h => ⟨T.cl_Root, T.na_Root_snap⟩ | 2, h => nomatch (show false = true from h) | 3, h => nomatch (show false = true from h) | n + 4, h => nomatch (show false = true from h)
theorem hc_time (T : Txt K mg A) : ∀ c, at_time c = true → Cls K ((tb K A).cls c) ∧ NoAttr K ((tb K A).cls c) "time" := fun c h => match c, h with | 0, h => nomatch (show false = true from h) | 1, h => ⟨T.cl_Root, T.na_Root_time⟩ | 2, h => nomatch (show false = true from h) | 3, h => nomatch (show false = true from h) | n + 4, h => nomatch (show false = true from h)
theorem hc_top (T : Txt K mg A) : ∀ c, at_top c = true → Cls K ((tb K A).cls c) ∧ NoAttr K ((tb K A).cls c) "top" := fun c h => match c, h with | 0, h => nomatch (show false = true from h) | 1, h => ⟨T.cl_Root, T.na_Root_top⟩ | 2, h => nomatch (show false = true from h) | 3, h => nomatch (show false = true from h) | n + 4, h => nomatch (show false = true from h)
theorem hc_volume (T : Txt K mg A) : ∀ c, at_volume c = true → Cls K ((tb K A).cls c) ∧ NoAttr K ((tb K A).cls c) "volume" := fun c h => match c, h with | 0, h => nomatch (show false = true from h) | 1, h => ⟨T.cl_Root, T.na_Root_volume⟩ | 2, h => nomatch (show false = true from h) | 3, h => nomatch (show false = true from h) | n + 4, h => nomatch (show false = true from h)
theorem hc_volumes (T : Txt K mg A) : ∀ c, at_volumes c = true → Cls K ((tb K A).cls c) ∧ NoAttr K ((tb K A).cls c) "volumes" := fun c h => match c, h with | 0, h => nomatch (show false = true from h) | 1, h => nomatch (show false = true from h) | 2, h => nomatch (show false = true from h) | 3, h => ⟨T.cl_Book, T.na_Book_volumes⟩ | n + 4, h => nomatch (show false = true from h)
theorem ok_page_place (T : Txt K mg A) : FnOk P w K mg base (L2.CX P w) 1 A.f_page_place A.d_page_place ["area", "i"] (spM (tb K A) m_page_place) := by
  refine T.F_page_place.okX sc_page_place (fun vs H Q E h => h.1) (fun cdv A0 outer s H vs Q E hr h => ?_)
  refine ⟨_, (pss_one (ps_ret (pe_op (addA (K := K) rfl) (pe_op op_mulA (pe_glob (v := .int 11) (by rfl) T.g_AREA_CELLS ⟨_, rfl⟩) (pv 0)) (pv 1)))), ?_⟩
  exact body_ok (m := m_page_place) rfl (by decide) (ss_ret (se_opS r2_add (se_fz (se_opS r2_mul (se_int _) (se_var 0))) (se_var 1))) h

theorem ok_name_number (T : Txt K mg A) : FnOk P w K mg base (L2.CX P w) 1 A.f_name_number A.d_name_number ["name"] (spM (tb K A) m_name_number) := by
  refine T.F_name_number.okX sc_name_number (fun vs H Q E h => h.1) (fun cdv A0 outer s H vs Q E hr h => ?_)
  refine ⟨_, (pss_cons (ps_set (i := 1) sc_name_number.nd rfl (Or.inl rfl) pe_int)
(pss_cons (ps_for (passes_of rfl) rfl (pi_seq (pv 0)) (pg_name (i := 2) sc_name_number.nd rfl (Or.inl rfl))
(pss_one (ps_set (i := 1) sc_name_number.nd rfl (Or.inl rfl) (pe_op (addA (K := K) rfl) (pe_op (addA (K := K) rfl) (pe_op op_mulA (pe_glob (v := .int 27) (by rfl) T.g_BASE ⟨_, rfl⟩) (pv 1)) (pe_bmS PySem.F.plainAttrs_str PySem.F.slot_str_index PySem.F.type_str_index (mt_indexX rfl (takes_of rfl rfl rfl rfl)) (pe_glob (v := .str "abcdefghijklmnopqrstuvwxyz") (by rfl) T.g_LETTERS ⟨_, rfl⟩) (pa_cons (pv 2) pa_nil))) pe_int))))
(pss_one (ps_ret (pv 1))))), ?_⟩
  exact body_ok (m := m_name_number) rfl (by decide) (ss_seq (ss_set 1 (se_int 0))
(ss_seq (ss_for (si_any (se_var 0)) (sg_name 2)
(ss_set 1 (se_fz (se_opS r2_add (se_fz (se_opS r2_add (se_fz (se_opS r2_mul (se_int _) (se_var 1))) (se_fz (se_index (se_str _) (se_var 2))))) (se_int 1)))))
(ss_ret (se_var 1)))) h

theorem ok_name_of (T : Txt K mg A) : FnOk P w K mg base (L2.CX P w) 1 A.f_name_of A.d_name_of ["number"] (spM (tb K A) m_name_of) := by
  refine T.F_name_of.okX sc_name_of (fun vs H Q E h => h.1) (fun cdv A0 outer s H vs Q E hr h => ?_)
  refine ⟨_, (pss_cons (ps_set (i := 1) sc_name_of.nd rfl (Or.inl rfl) pe_str)
(pss_cons (ps_while (passes_of rfl) (pt_cmpR op_gtA (pv 0) pe_int (nomark _))
(pss_cons (ps_set (i := 1) sc_name_of.nd rfl (Or.inl rfl) (pe_op (addA (K := K) rfl) (pe_ix (ixAA (K := K) rfl hr.units) (pe_glob (v := .str "abcdefghijklmnopqrstuvwxyz") (by rfl) T.g_LETTERS ⟨_, rfl⟩) (pe_op op_sub (pe_op op_mod (pv 0) (pe_glob (v := .int 27) (by rfl) T.g_BASE ⟨_, rfl⟩)) pe_int) (fun _ _ => rfl)) (pv 1)))
(pss_one (ps_aug (i := 0) sc_name_of.nd rfl (Or.inl rfl) (pe_glob (v := .int 27) (by rfl) T.g_BASE ⟨_, rfl⟩) ip_divA))))
(pss_one (ps_ret (pv 1))))), ?_⟩
  exact body_ok (m := m_name_of) rfl (by decide) (ss_seq (ss_set 1 (se_str ""))
(ss_seq (ss_while whileFuel (st_test (se_op r2_gt (se_var 0) (se_int 0)))
(ss_seq (ss_set 1 (se_fz (se_opS r2_add (se_ix (se_str _) (se_op r2_sub (se_fz (se_op r2_mod (se_var 0) (se_int _))) (se_int 1))) (se_var 1))))
(ss_aug 0 r2_div (se_int _))))
(ss_ret (se_var 1)))) h

theorem ok_root_numbers (T : Txt K mg A) : FnOk P w K mg base (L2.CX P w) 2 A.f_root_numbers A.d_root_numbers ["root"] (spM (tb K A) m_root_numbers) := by
  refine T.F_root_numbers.okX sc_root_numbers (fun vs H Q E h => h.1) (fun cdv A0 outer s H vs Q E hr h => ?_)
  refine ⟨_, (pss_cons (ps_set (i := 1) sc_root_numbers.nd rfl (Or.inl rfl) (pe_ifExp (pt_cmpR op_isA (pe_fld (pv 0) rfl) pe_non (nomark _)) pe_int (pe_callSD (ok_name_number T) (hr.mono (by decide)) (by rfl) T.g_name_number T.F_name_number.kp T.B_name_number .nil (fun σ => passAt (takes_of rfl rfl rfl rfl) σ) (pa_cons (pe_fld (pv 0) rfl) pa_nil))))
(pss_cons (ps_set (i := 2) sc_root_numbers.nd rfl (Or.inl rfl) (pe_op (addA (K := K) rfl) (pe_op (addA (K := K) rfl) (pe_lst (pa_cons (pe_fld (pv 0) rfl) (pa_cons (pe_fld (pv 0) rfl) (pa_cons (pv 1) (pa_cons (pe_fld (pv 0) rfl) (pa_cons (pe_fld (pv 0) rfl) pa_nil)))))) (pe_callTy (lstA (K := K) rfl) (by rfl) T.b_list (by decide +kernel) (pa_cons (pe_fld (pv 0) rfl) pa_nil))) (pe_callTy (lstA (K := K) rfl) (by rfl) T.b_list (by decide +kernel) (pa_cons (pe_fld (pv 0) rfl) pa_nil))))
(pss_cons (ps_expr (pe_bm PySem.F.plainAttrs_list PySem.F.slot_list_append PySem.F.type_list_append mt_append (pv 2) (pa_cons (pe_callB (lenB (K := K) rfl) (by rfl) T.b_len PySem.boot_len (pa_cons (pe_fld (pv 0) rfl) pa_nil)) pa_nil)))
(pss_cons (ps_for (passes_of rfl) rfl (pi_seq (pe_fld (pv 0) rfl)) (pg_tup rfl (pgs_cons (pg_name (i := 3) sc_root_numbers.nd rfl (Or.inl rfl)) (pgs_cons (pg_name (i := 4) sc_root_numbers.nd rfl (Or.inl rfl)) pgs_nil)))
(pss_one (ps_expr (pe_bm PySem.F.plainAttrs_list PySem.F.slot_list_extend PySem.F.type_list_extend (mt_extA (K := K) rfl) (pv 2) (pa_cons (pe_lst (pa_cons (pv 3) (pa_cons (pv 4) pa_nil))) pa_nil)))))
(pss_one (ps_ret (pv 2))))))), ?_⟩
  exact body_ok (m := m_root_numbers) rfl (by decide) (ss_seq (ss_set 1 (se_fz (se_if (st_test (se_op r2_is (se_fld (hc_snap T) (se_var 0)) se_non)) (se_int 0) (se_callSD (fun _ _ _ _ h => h) .nil (sa_cons (se_fld (hc_snap T) (se_var 0)) sa_nil)))))
(ss_seq (ss_set 2 (se_opS r2_add (se_fz (se_opS r2_add (se_fz (se_lst (sa_cons (se_fld (hc_ident T) (se_var 0)) (sa_cons (se_fld (hc_volume T) (se_var 0)) (sa_cons (se_var 1) (sa_cons (se_fld (hc_prev T) (se_var 0)) (sa_cons (se_fld (hc_time T) (se_var 0)) sa_nil))))))) (se_fz (se_cbS rc_list (sa_cons (se_fld (hc_mark T) (se_var 0)) sa_nil))))) (se_fz (se_cbS rc_list (sa_cons (se_fld (hc_top T) (se_var 0)) sa_nil)))))
(ss_seq (ss_drop (se_bm bm_append (se_var 2) (sa_cons (se_cb rc_lenB (sa_cons (se_fld (hc_dead T) (se_var 0)) sa_nil)) sa_nil)))
(ss_seq (ss_for (si_any (se_fld (hc_dead T) (se_var 0))) (sg_tup (sgs_cons (sg_name 3) (sgs_cons (sg_name 4) sgs_nil)))
(ss_drop (se_bm bm_extA (se_var 2) (sa_cons (se_lst (sa_cons (se_var 3) (sa_cons (se_var 4) sa_nil))) sa_nil))))
(ss_ret (se_var 2)))))) h

theorem ok_book_numbers (T : Txt K mg A) : FnOk P w K mg base (L2.CX P w) 3 A.f_book_numbers A.d_book_numbers ["book"] (spM (tb K A) m_book_numbers) := by
  refine T.F_book_numbers.okX sc_book_numbers (fun vs H Q E h => h.1) (fun cdv A0 outer s H vs Q E hr h => ?_)
  refine ⟨_, (pss_cons (ps_set (i := 1) sc_book_numbers.nd rfl (Or.inl rfl) (pe_lst (pa_cons (pe_fld (pv 0) rfl) (pa_cons (pe_callB (lenB (K := K) rfl) (by rfl) T.b_len PySem.boot_len (pa_cons (pe_fld (pv 0) rfl) pa_nil)) (pa_cons (pe_callB (lenB (K := K) rfl) (by rfl) T.b_len PySem.boot_len (pa_cons (pe_fld (pv 0) rfl) pa_nil)) pa_nil)))))
(pss_cons (ps_for (passes_of rfl) rfl (pi_seq (pe_callB (sortA (K := K) rfl rfl) (by rfl) T.b_sorted (by decide +kernel) (pa_cons (pe_fld (pv 0) rfl) pa_nil))) (pg_name (i := 2) sc_book_numbers.nd rfl (Or.inl rfl))
(pss_cons (ps_set (i := 3) sc_book_numbers.nd rfl (Or.inl rfl) (pe_ix (ixAA (K := K) rfl hr.units) (pe_fld (pv 0) rfl) (pv 2) (fun _ _ => rfl)))
(pss_one (ps_expr (pe_bm PySem.F.plainAttrs_list PySem.F.slot_list_extend PySem.F.type_list_extend (mt_extA (K := K) rfl) (pv 1) (pa_cons (pe_lst (pa_cons (pe_callSD (ok_name_number T) (hr.mono (by decide)) (by rfl) T.g_name_number T.F_name_number.kp T.B_name_number .nil (fun σ => passAt (takes_of rfl rfl rfl rfl) σ) (pa_cons (pe_fld (pv 3) rfl) pa_nil)) (pa_cons (pe_fld (pv 3) rfl) (pa_cons (pe_fld (pv 3) rfl) pa_nil)))) pa_nil))))))
(pss_cons (ps_for (passes_of rfl) rfl (pi_seq (pe_callB (sortA (K := K) rfl rfl) (by rfl) T.b_sorted (by decide +kernel) (pa_cons (pe_fld (pv 0) rfl) pa_nil))) (pg_name (i := 2) sc_book_numbers.nd rfl (Or.inl rfl))
(pss_one (ps_expr (pe_bm PySem.F.plainAttrs_list PySem.F.slot_list_extend PySem.F.type_list_extend (mt_extA (K := K) rfl) (pv 1) (pa_cons (pe_callSD (ok_root_numbers T) (hr.mono (by decide)) (by rfl) T.g_root_numbers T.F_root_numbers.kp T.B_root_numbers .nil (fun σ => passAt (takes_of rfl rfl rfl rfl) σ) (pa_cons (pe_ix (ixAA (K := K) rfl hr.units) (pe_fld (pv 0) rfl) (pv 2) (fun _ _ => rfl)) pa_nil)) pa_nil)))))
(pss_one (ps_ret (pe_callTy (tupA (K := K) rfl) (by rfl) T.b_tuple (by decide +kernel) (pa_cons (pv 1) pa_nil))))))), ?_⟩
  exact body_ok (m := m_book_numbers) rfl (by decide) (ss_seq (ss_set 1 (se_lst (sa_cons (se_fld (hc_next_id T) (se_var 0)) (sa_cons (se_cb rc_lenB (sa_cons (se_fld (hc_volumes T) (se_var 0)) sa_nil)) (sa_cons (se_cb rc_lenB (sa_cons (se_fld (hc_roots T) (se_var 0)) sa_nil)) sa_nil)))))
(ss_seq (ss_for (si_any (se_cb rc_sortA (sa_cons (se_fld (hc_volumes T) (se_var 0)) sa_nil))) (sg_name 2)
(ss_seq (ss_set 3 (se_ix (se_fld (hc_volumes T) (se_var 0)) (se_var 2)))
(ss_drop (se_bm bm_extA (se_var 1) (sa_cons (se_lst (sa_cons (se_callSD (fun _ _ _ _ h => h) .nil (sa_cons (se_fld (hc_name T) (se_var 3)) sa_nil)) (sa_cons (se_fld (hc_quota T) (se_var 3)) (sa_cons (se_fld (hc_head T) (se_var 3)) sa_nil)))) sa_nil)))))
(ss_seq (ss_for (si_any (se_cb rc_sortA (sa_cons (se_fld (hc_roots T) (se_var 0)) sa_nil))) (sg_name 2)
(ss_drop (se_bm bm_extA (se_var 1) (sa_cons (se_callSD (fun _ _ _ _ h => h) .nil (sa_cons (se_ix (se_fld (hc_roots T) (se_var 0)) (se_var 2)) sa_nil)) sa_nil))))
(ss_ret (se_cbS rc_tuple (sa_cons (se_var 1) sa_nil)))))) h

theorem ok_Root___init__ (T : Txt K mg A) : FnOk P w K mg base (L2.CX P w) 1 A.f_Root___init__ A.d_Root___init__ ["self", "ident", "volume", "snap", "prev", "time", "mark", "top", "dead"] (spM (tb K A) m_Root___init__) := by
  refine T.F_Root___init__.okX sc_Root___init__ (fun vs H Q E h => h.1) (fun cdv A0 outer s H vs Q E hr h => ?_)
  refine ⟨_, (pss_cons (ps_fld (pv 0) (pv 1) rfl)
(pss_cons (ps_fld (pv 0) (pv 2) rfl)
(pss_cons (ps_fld (pv 0) (pv 3) rfl)
(pss_cons (ps_fld (pv 0) (pv 4) rfl)
(pss_cons (ps_fld (pv 0) (pv 5) rfl)
(pss_cons (ps_fld (pv 0) (pv 6) rfl)
(pss_cons (ps_fld (pv 0) (pv 7) rfl)
(pss_one (ps_fld (pv 0) (pv 8) rfl))))))))), ?_⟩
  exact body_ok (m := m_Root___init__) rfl (by decide) (ss_seq (ss_putFd (hc_ident T) (se_var 1) (se_var 0))
(ss_seq (ss_putFd (hc_volume T) (se_var 2) (se_var 0))
(ss_seq (ss_putFd (hc_snap T) (se_var 3) (se_var 0))
(ss_seq (ss_putFd (hc_prev T) (se_var 4) (se_var 0))
(ss_seq (ss_putFd (hc_time T) (se_var 5) (se_var 0))
(ss_seq (ss_putFd (hc_mark T) (se_var 6) (se_var 0))
(ss_seq (ss_putFd (hc_top T) (se_var 7) (se_var 0))
(ss_putFd (hc_dead T) (se_var 8) (se_var 0))))))))) h

theorem ok_root_of (T : Txt K mg A) : FnOk P w K mg base (L2.CX P w) 3 A.f_root_of A.d_root_of ["numbers", "at"] (spM (tb K A) m_root_of) := by
  refine T.F_root_of.okX sc_root_of (fun vs H Q E h => h.1) (fun cdv A0 outer s H vs Q E hr h => ?_)
  refine ⟨_, (pss_cons (ps_asg (pe_slice (slA (K := K) rfl) (pv 0) (po_some (pv 1)) (po_some (pe_op (addA (K := K) rfl) (pv 1) pe_int))) (pg_tup rfl (pgs_cons (pg_name (i := 2) sc_root_of.nd rfl (Or.inl rfl)) (pgs_cons (pg_name (i := 3) sc_root_of.nd rfl (Or.inl rfl)) (pgs_cons (pg_name (i := 4) sc_root_of.nd rfl (Or.inl rfl)) (pgs_cons (pg_name (i := 5) sc_root_of.nd rfl (Or.inl rfl)) (pgs_cons (pg_name (i := 6) sc_root_of.nd rfl (Or.inl rfl)) pgs_nil)))))))
(pss_cons (ps_par (i := 7) (j := 8) rfl sc_root_of.nd rfl rfl (by decide) rfl rfl (pa_cons (pe_callTy (tupA (K := K) rfl) (by rfl) T.b_tuple (by decide +kernel) (pa_cons (pe_slice (slA (K := K) rfl) (pv 0) (po_some (pe_op (addA (K := K) rfl) (pv 1) pe_int)) (po_some (pe_op (addA (K := K) rfl) (pv 1) pe_int))) pa_nil)) (pa_cons (pe_callTy (tupA (K := K) rfl) (by rfl) T.b_tuple (by decide +kernel) (pa_cons (pe_slice (slA (K := K) rfl) (pv 0) (po_some (pe_op (addA (K := K) rfl) (pv 1) pe_int)) (po_some (pe_op (addA (K := K) rfl) (pv 1) pe_int))) pa_nil)) pa_nil)) (by rfl))
(pss_cons (ps_set (i := 9) sc_root_of.nd rfl (Or.inl rfl) (pe_op (addA (K := K) rfl) (pv 1) (pe_glob (v := .int 10) (by rfl) T.g_ROOT_NUMBERS ⟨_, rfl⟩)))
(pss_cons (ps_set (i := 10) sc_root_of.nd rfl (Or.inl rfl) (pe_op (addA (K := K) rfl) (pv 9) (pe_op op_mulA pe_int (pe_ix (ixAA (K := K) rfl hr.units) (pv 0) (pe_op (addA (K := K) rfl) (pv 1) pe_int) (fun _ _ => rfl)))))
(pss_cons (ps_set (i := 11) sc_root_of.nd rfl (Or.inl rfl) (pe_callTy (tupA (K := K) rfl) (by rfl) T.b_tuple (by decide +kernel) (pa_cons (pe_lc (own := [("k", 12)]) (g := (gName 12)) (tt := tYes) rfl sc_root_of.nd (pi_range3 (by rfl) T.b_range (pa_cons (pv 9) (pa_cons (pv 10) (pa_cons pe_int pa_nil)))) (blkOk_by (N := ["numbers", "at", "ident", "volume", "snap", "prev", "time", "mark", "top", "begin", "end", "dead", "k"]) (sc := defScope s_root_of) (by decide +kernel)) (fun _ _ _ _ _ => (pg_name (i := 12) sc_root_of.nd rfl (Or.inl rfl))) (fun _ _ _ _ _ => pts_nil) (fun _ _ _ _ _ => (pe_tup (pa_cons (pe_ix (ixAA (K := K) rfl hr.units) (pv 0) (pv 12) (fun _ _ => rfl)) (pa_cons (pe_ix (ixAA (K := K) rfl hr.units) (pv 0) (pe_op (addA (K := K) rfl) (pv 12) pe_int) (fun _ _ => rfl)) pa_nil))))) pa_nil)))
(pss_one (ps_ret (pe_tup (pa_cons (pe_make T.mk_Root (ok_Root___init__ T) (hr.mono (by decide)) (by rfl) T.g_Root T.B_Root___init__ .nil (passes_call (takes_of rfl rfl rfl rfl) (fun _ _ _ _ h => h)) (pa_cons (pv 2) (pa_cons (pv 3) (pa_cons (pe_ifExp (pt_cmpR (eqA (K := K) rfl hr.units) (pv 4) pe_int (nomark _)) pe_non (pe_callSD (ok_name_of T) (hr.mono (by decide)) (by rfl) T.g_name_of T.F_name_of.kp T.B_name_of .nil (fun σ => passAt (takes_of rfl rfl rfl rfl) σ) (pa_cons (pv 4) pa_nil))) (pa_cons (pv 5) (pa_cons (pv 6) (pa_cons (pv 7) (pa_cons (pv 8) (pa_cons (pv 11) pa_nil))))))))) (pa_cons (pv 10) pa_nil)))))))))), ?_⟩
  exact body_ok (m := m_root_of) rfl (by decide) (ss_seq (ss_asg (sg_tup (sgs_cons (sg_name 2) (sgs_cons (sg_name 3) (sgs_cons (sg_name 4) (sgs_cons (sg_name 5) (sgs_cons (sg_name 6) sgs_nil)))))) (se_fz (se_sl (se_var 0) (so_some (se_var 1)) (so_some (se_opS r2_add (se_var 1) (se_int 5))))))
(ss_seq (ss_par 7 8 (se_fz (se_cbS rc_tuple (sa_cons (se_fz (se_sl (se_var 0) (so_some (se_opS r2_add (se_var 1) (se_int 5))) (so_some (se_opS r2_add (se_var 1) (se_int 7))))) sa_nil))) (se_fz (se_cbS rc_tuple (sa_cons (se_fz (se_sl (se_var 0) (so_some (se_opS r2_add (se_var 1) (se_int 7))) (so_some (se_opS r2_add (se_var 1) (se_int 9))))) sa_nil))))
(ss_seq (ss_set 9 (se_fz (se_opS r2_add (se_var 1) (se_int _))))
(ss_seq (ss_set 10 (se_fz (se_opS r2_add (se_var 9) (se_fz (se_opS r2_mul (se_int 2) (se_ix (se_var 0) (se_opS r2_add (se_var 1) (se_int 9))))))))
(ss_seq (ss_set 11 (se_fz (se_cbS rc_tuple (sa_cons (se_fz (se_lc (by decide) (si_range3 (sa_cons (se_var 9) (sa_cons (se_var 10) (sa_cons (se_int 2) sa_nil)))) (sg_name 12) st_yes (se_tup (sa_cons (se_ix (se_var 0) (se_var 12)) (sa_cons (se_ix (se_var 0) (se_opS r2_add (se_var 12) (se_int 1))) sa_nil))))) sa_nil))))
(ss_ret (se_tup (sa_cons (se_make (c := 1) (fun _ _ _ _ h => h) .nil (sa_cons (se_var 2) (sa_cons (se_var 3) (sa_cons (se_fz (se_if (st_test (se_op r2_eq (se_var 4) (se_int 0))) se_non (se_callSD (fun _ _ _ _ h => h) .nil (sa_cons (se_var 4) sa_nil)))) (sa_cons (se_var 5) (sa_cons (se_var 6) (sa_cons (se_var 7) (sa_cons (se_var 8) (sa_cons (se_var 11) sa_nil))))))))) (sa_cons (se_var 10) sa_nil))))))))) h

theorem ok_Volume___init__ (T : Txt K mg A) : FnOk P w K mg base (L2.CX P w) 1 A.f_Volume___init__ A.d_Volume___init__ ["self", "name", "quota", "head"] (spM (tb K A) m_Volume___init__) := by
  refine T.F_Volume___init__.okX sc_Volume___init__ (fun vs H Q E h => h.1) (fun cdv A0 outer s H vs Q E hr h => ?_)
  refine ⟨_, (pss_cons (ps_fld (pv 0) (pv 1) rfl)
(pss_cons (ps_fld (pv 0) (pv 2) rfl)
(pss_one (ps_fld (pv 0) (pv 3) rfl)))), ?_⟩
  exact body_ok (m := m_Volume___init__) rfl (by decide) (ss_seq (ss_putFd (hc_name T) (se_var 1) (se_var 0))
(ss_seq (ss_putFd (hc_quota T) (se_var 2) (se_var 0))
(ss_putFd (hc_head T) (se_var 3) (se_var 0)))) h

theorem ok_Book___init__ (T : Txt K mg A) : FnOk P w K mg base (L2.CX P w) 1 A.f_Book___init__ A.d_Book___init__ ["self"] (spM (tb K A) m_Book___init__) := by
  refine T.F_Book___init__.okX sc_Book___init__ (fun vs H Q E h => h.1) (fun cdv A0 outer s H vs Q E hr h => ?_)
  refine ⟨_, (pss_cons (ps_fld (pv 0) pe_int rfl)
(pss_cons (ps_fld (pv 0) pe_dnewK rfl)
(pss_one (ps_fld (pv 0) pe_dnewK rfl)))), ?_⟩
  exact body_ok (m := m_Book___init__) rfl (by decide) (ss_seq (ss_putFd (hc_next_id T) (se_int 1) (se_var 0))
(ss_seq (ss_putFd (hc_volumes T) se_dnew (se_var 0))
(ss_putFd (hc_roots T) se_dnew (se_var 0)))) h

theorem ok_book_of (T : Txt K mg A) : FnOk P w K mg base (L2.CX P w) 4 A.f_book_of A.d_book_of ["numbers"] (spM (tb K A) m_book_of) := by
  refine T.F_book_of.okX sc_book_of (fun vs H Q E h => h.1) (fun cdv A0 outer s H vs Q E hr h => ?_)
  refine ⟨_, (pss_cons (ps_set (i := 1) sc_book_of.nd rfl (Or.inl rfl) (pe_make0 T.mk_Book (ok_Book___init__ T) (hr.mono (by decide)) (by rfl) T.g_Book T.B_Book___init__ .nil (passes_call (takes_of rfl rfl rfl rfl) (fun _ _ _ _ h => h))))
(pss_cons (ps_fld (pv 1) (pe_ix (ixAA (K := K) rfl hr.units) (pv 0) pe_int (fun _ _ => rfl)) rfl)
(pss_cons (ps_set (i := 2) sc_book_of.nd rfl (Or.inl rfl) (pe_glob (v := .int 3) (by rfl) T.g_VOLUME_NUMBERS ⟨_, rfl⟩))
(pss_cons (ps_for (passes_of rfl) rfl (pi_range1 (by rfl) T.b_range (pa_cons (pe_ix (ixAA (K := K) rfl hr.units) (pv 0) pe_int (fun _ _ => rfl)) pa_nil)) (pg_name (i := 3) sc_book_of.nd rfl (Or.inl rfl))
(pss_cons (ps_asg (pe_slice (slA (K := K) rfl) (pv 0) (po_some (pv 2)) (po_some (pe_op (addA (K := K) rfl) (pv 2) (pe_glob (v := .int 3) (by rfl) T.g_VOLUME_NUMBERS ⟨_, rfl⟩)))) (pg_tup rfl (pgs_cons (pg_name (i := 4) sc_book_of.nd rfl (Or.inl rfl)) (pgs_cons (pg_name (i := 5) sc_book_of.nd rfl (Or.inl rfl)) (pgs_cons (pg_name (i := 6) sc_book_of.nd rfl (Or.inl rfl)) pgs_nil)))))
(pss_cons (ps_asg (pe_make T.mk_Volume (ok_Volume___init__ T) (hr.mono (by decide)) (by rfl) T.g_Volume T.B_Volume___init__ .nil (passes_call (takes_of rfl rfl rfl rfl) (fun _ _ _ _ h => h)) (pa_cons (pe_callSD (ok_name_of T) (hr.mono (by decide)) (by rfl) T.g_name_of T.F_name_of.kp T.B_name_of .nil (fun σ => passAt (takes_of rfl rfl rfl rfl) σ) (pa_cons (pv 4) pa_nil)) (pa_cons (pv 5) (pa_cons (pv 6) pa_nil)))) (pg_sub (pe_fld (pv 1) rfl) (pv 6) (setAA hr.units)))
(pss_one (ps_aug (i := 2) sc_book_of.nd rfl (Or.inl rfl) (pe_glob (v := .int 3) (by rfl) T.g_VOLUME_NUMBERS ⟨_, rfl⟩) ip_addA)))))
(pss_cons (ps_for (passes_of rfl) rfl (pi_range1 (by rfl) T.b_range (pa_cons (pe_ix (ixAA (K := K) rfl hr.units) (pv 0) pe_int (fun _ _ => rfl)) pa_nil)) (pg_name (i := 3) sc_book_of.nd rfl (Or.inl rfl))
(pss_cons (ps_asg (pe_callSD (ok_root_of T) (hr.mono (by decide)) (by rfl) T.g_root_of T.F_root_of.kp T.B_root_of .nil (fun σ => passAt (takes_of rfl rfl rfl rfl) σ) (pa_cons (pv 0) (pa_cons (pv 2) pa_nil))) (pg_tup rfl (pgs_cons (pg_name (i := 7) sc_book_of.nd rfl (Or.inl rfl)) (pgs_cons (pg_name (i := 2) sc_book_of.nd rfl (Or.inl rfl)) pgs_nil))))
(pss_one (ps_asg (pv 7) (pg_sub (pe_fld (pv 1) rfl) (pe_fld (pv 7) rfl) (setAA hr.units))))))
(pss_one (ps_ret (pv 1)))))))), ?_⟩
  exact body_ok (m := m_book_of) rfl (by decide) (ss_seq (ss_set 1 (se_make (c := 3) (fun _ _ _ _ h => h) .nil sa_nil))
(ss_seq (ss_putFd (hc_next_id T) (se_ix (se_var 0) (se_int 0)) (se_var 1))
(ss_seq (ss_set 2 (se_int _))
(ss_seq (ss_for (si_range1 (sa_cons (se_ix (se_var 0) (se_int 1)) sa_nil)) (sg_name 3)
(ss_seq (ss_asg (sg_tup (sgs_cons (sg_name 4) (sgs_cons (sg_name 5) (sgs_cons (sg_name 6) sgs_nil)))) (se_fz (se_sl (se_var 0) (so_some (se_var 2)) (so_some (se_opS r2_add (se_var 2) (se_int _))))))
(ss_seq (ss_putIx (se_make (c := 2) (fun _ _ _ _ h => h) .nil (sa_cons (se_fz (se_callSD (fun _ _ _ _ h => h) .nil (sa_cons (se_var 4) sa_nil))) (sa_cons (se_var 5) (sa_cons (se_var 6) sa_nil)))) (se_fld (hc_volumes T) (se_var 1)) (se_var 6))
(ss_aug 2 r2_addI (se_int _)))))
(ss_seq (ss_for (si_range1 (sa_cons (se_ix (se_var 0) (se_int 2)) sa_nil)) (sg_name 3)
(ss_seq (ss_asg (sg_tup (sgs_cons (sg_name 7) (sgs_cons (sg_name 2) sgs_nil))) (se_fz (se_callSD (fun _ _ _ _ h => h) .nil (sa_cons (se_var 0) (sa_cons (se_var 2) sa_nil)))))
(ss_putIx (se_var 7) (se_fld (hc_roots T) (se_var 1)) (se_fld (hc_ident T) (se_var 7)))))
(ss_ret (se_var 1))))))) h

theorem ok_pages_of (T : Txt K mg A) : FnOk P w K mg base (L2.CX P w) 1 A.f_pages_of A.d_pages_of ["numbers"] (spM (tb K A) m_pages_of) := by
  refine T.F_pages_of.okX sc_pages_of (fun vs H Q E h => h.1) (fun cdv A0 outer s H vs Q E hr h => ?_)
  refine ⟨_, (pss_one (ps_ret (pe_lc (own := [("at", 1)]) (g := (gName 1)) (tt := tYes) rfl sc_pages_of.nd (pi_range3 (by rfl) T.b_range (pa_cons pe_int (pa_cons (pe_callB (lenB (K := K) rfl) (by rfl) T.b_len PySem.boot_len (pa_cons (pv 0) pa_nil)) (pa_cons (pe_glob (v := .int 60) (by rfl) T.g_PAGE_NUMBERS ⟨_, rfl⟩) pa_nil)))) (blkOk_by (N := ["numbers", "at"]) (sc := defScope s_pages_of) (by decide +kernel)) (fun _ _ _ _ _ => (pg_name (i := 1) sc_pages_of.nd rfl (Or.inl rfl))) (fun _ _ _ _ _ => pts_nil) (fun _ _ _ _ _ => (pe_callTy (tupA (K := K) rfl) (by rfl) T.b_tuple (by decide +kernel) (pa_cons (pe_slice (slA (K := K) rfl) (pv 0) (po_some (pv 1)) (po_some (pe_op (addA (K := K) rfl) (pv 1) (pe_glob (v := .int 60) (by rfl) T.g_PAGE_NUMBERS ⟨_, rfl⟩)))) pa_nil)))))), ?_⟩
  exact body_ok (m := m_pages_of) rfl (by decide) (ss_ret (se_lc (by decide) (si_range3 (sa_cons (se_int 0) (sa_cons (se_cb rc_lenB (sa_cons (se_var 0) sa_nil)) (sa_cons (se_int _) sa_nil)))) (sg_name 1) st_yes (se_cbS rc_tuple (sa_cons (se_fz (se_sl (se_var 0) (so_some (se_var 1)) (so_some (se_opS r2_add (se_var 1) (se_int _))))) sa_nil)))) h

theorem ok_need_fitting (T : Txt K mg A) : FnOk P w K mg base (L2.CX P w) 4 A.f_need_fitting A.d_need_fitting ["book"] (spM (tb K A) m_need_fitting) := by
  refine T.F_need_fitting.okX sc_need_fitting (fun vs H Q E h => h.1) (fun cdv A0 outer s H vs Q E hr h => ?_)
  refine ⟨_, (pss_cons (ps_set (i := 1) sc_need_fitting.nd rfl (Or.inl rfl) (pe_callB (lenB (K := K) rfl) (by rfl) T.b_len PySem.boot_len (pa_cons (pe_callSD (ok_book_numbers T) (hr.mono (by decide)) (by rfl) T.g_book_numbers T.F_book_numbers.kp T.B_book_numbers .nil (fun σ => passAt (takes_of rfl rfl rfl rfl) σ) (pa_cons (pv 0) pa_nil)) pa_nil)))
(pss_one (ps_if (pt_cmpR op_gtA (pv 1) (pe_op op_mulA (pe_glob (v := .int 10) (by rfl) T.g_PAGES ⟨_, rfl⟩) (pe_glob (v := .int 60) (by rfl) T.g_PAGE_NUMBERS ⟨_, rfl⟩)) (nomark _))
(pss_one (ps_raiseX rfl T.x_BookFull hr (takes_of rfl rfl rfl rfl) (pa_cons (pv 1) pa_nil)))
pss_nil))), ?_⟩
  exact body_ok (m := m_need_fitting) rfl (by decide) (ss_seq (ss_set 1 (se_fz (se_cb rc_lenB (sa_cons (se_fz (se_callSD (fun _ _ _ _ h => h) .nil (sa_cons (se_var 0) sa_nil))) sa_nil))))
(ss_if (st_test (se_op r2_gt (se_var 1) (se_fz (se_opS r2_mul (se_int _) (se_int _)))))
(ss_raise 0 rfl (se_var 1))
ss_next)) h

theorem ok_check_of (T : Txt K mg A) : FnOk P w K mg base (L2.CX P w) 1 A.f_check_of A.d_check_of ["numbers"] (spM (tb K A) m_check_of) := by
  refine T.F_check_of.okX sc_check_of (fun vs H Q E h => h.1) (fun cdv A0 outer s H vs Q E hr h => ?_)
  refine ⟨_, (pss_cons (ps_set (i := 1) sc_check_of.nd rfl (Or.inl rfl) pe_int)
(pss_cons (ps_for (passes_of rfl) rfl (pi_en (by rfl) T.b_enumerate (pa_cons (pv 0) pa_nil)) (pg_tup rfl (pgs_cons (pg_name (i := 2) sc_check_of.nd rfl (Or.inl rfl)) (pgs_cons (pg_name (i := 3) sc_check_of.nd rfl (Or.inl rfl)) pgs_nil)))
(pss_one (ps_aug (i := 1) sc_check_of.nd rfl (Or.inl rfl) (pe_op op_mulA (pe_op (addA (K := K) rfl) (pv 2) pe_int) (pv 3)) ip_addA)))
(pss_one (ps_ret (pe_op op_mod (pv 1) (pe_glob (v := .int 1000003) (by rfl) T.g_MODULUS ⟨_, rfl⟩)))))), ?_⟩
  exact body_ok (m := m_check_of) rfl (by decide) (ss_seq (ss_set 1 (se_int 0))
(ss_seq (ss_for (si_enum (sa_cons (se_var 0) sa_nil)) (sg_tup (sgs_cons (sg_name 2) (sgs_cons (sg_name 3) sgs_nil)))
(ss_aug 1 r2_addI (se_opS r2_mul (se_fz (se_opS r2_add (se_var 2) (se_int 1))) (se_var 3))))
(ss_ret (se_op r2_mod (se_var 1) (se_int _))))) h

theorem ok_made_row (T : Txt K mg A) : FnOk P w K mg base (L2.CX P w) 2 A.f_made_row A.d_made_row ["kind", "place", "number", "payload"] (spM (tb K A) m_made_row) := by
  refine T.F_made_row.okX sc_made_row (fun vs H Q E h => h.1) (fun cdv A0 outer s H vs Q E hr h => ?_)
  refine ⟨_, (pss_cons (ps_set (i := 4) sc_made_row.nd rfl (Or.inl rfl) (pe_op (addA (K := K) rfl) (pe_tup (pa_cons (pv 0) (pa_cons (pv 1) (pa_cons (pv 2) (pa_cons (pe_callB (lenB (K := K) rfl) (by rfl) T.b_len PySem.boot_len (pa_cons (pv 3) pa_nil)) pa_nil))))) (pe_callTy (tupA (K := K) rfl) (by rfl) T.b_tuple (by decide +kernel) (pa_cons (pv 3) pa_nil))))
(pss_one (ps_ret (pe_op (addA (K := K) rfl) (pv 4) (pe_tup (pa_cons (pe_callSD (ok_check_of T) (hr.mono (by decide)) (by rfl) T.g_check_of T.F_check_of.kp T.B_check_of .nil (fun σ => passAt (takes_of rfl rfl rfl rfl) σ) (pa_cons (pv 4) pa_nil)) pa_nil)))))), ?_⟩
  exact body_ok (m := m_made_row) rfl (by decide) (ss_seq (ss_set 4 (se_fz (se_opS r2_add (se_fz (se_tup (sa_cons (se_var 0) (sa_cons (se_var 1) (sa_cons (se_var 2) (sa_cons (se_fz (se_cb rc_lenB (sa_cons (se_var 3) sa_nil))) sa_nil)))))) (se_fz (se_cbS rc_tuple (sa_cons (se_var 3) sa_nil))))))
(ss_ret (se_opS r2_add (se_var 4) (se_fz (se_tup (sa_cons (se_fz (se_callSD (fun _ _ _ _ h => h) .nil (sa_cons (se_var 4) sa_nil))) sa_nil)))))) h

theorem ok_page_rows (T : Txt K mg A) : FnOk P w K mg base (L2.CX P w) 3 A.f_page_rows A.d_page_rows ["area", "number", "numbers"] (spM (tb K A) m_page_rows) := by
  refine T.F_page_rows.okX sc_page_rows (fun vs H Q E h => h.1) (fun cdv A0 outer s H vs Q E hr h => ?_)
  refine ⟨_, (pss_cons (ps_set (i := 3) sc_page_rows.nd rfl (Or.inl rfl) (pe_lst pa_nil))
(pss_cons (ps_for (passes_of rfl) rfl (pi_en (by rfl) T.b_enumerate (pa_cons (pe_callSD (ok_pages_of T) (hr.mono (by decide)) (by rfl) T.g_pages_of T.F_pages_of.kp T.B_pages_of .nil (fun σ => passAt (takes_of rfl rfl rfl rfl) σ) (pa_cons (pv 2) pa_nil)) pa_nil)) (pg_tup rfl (pgs_cons (pg_name (i := 4) sc_page_rows.nd rfl (Or.inl rfl)) (pgs_cons (pg_name (i := 5) sc_page_rows.nd rfl (Or.inl rfl)) pgs_nil)))
(pss_cons (ps_set (i := 6) sc_page_rows.nd rfl (Or.inl rfl) (pe_callSD (ok_page_place T) (hr.mono (by decide)) (by rfl) T.g_page_place T.F_page_place.kp T.B_page_place .nil (fun σ => passAt (takes_of rfl rfl rfl rfl) σ) (pa_cons (pv 0) (pa_cons (pe_op (addA (K := K) rfl) (pv 4) pe_int) pa_nil))))
(pss_one (ps_expr (pe_bm PySem.F.plainAttrs_list PySem.F.slot_list_append PySem.F.type_list_append mt_append (pv 3) (pa_cons (pe_tup (pa_cons (pv 6) (pa_cons (pe_callSD (ok_made_row T) (hr.mono (by decide)) (by rfl) T.g_made_row T.F_made_row.kp T.B_made_row .nil (fun σ => passAt (takes_of rfl rfl rfl rfl) σ) (pa_cons (pe_glob (v := .int 2) (by rfl) T.g_PAGE ⟨_, rfl⟩) (pa_cons (pv 6) (pa_cons (pv 1) (pa_cons (pv 5) pa_nil))))) pa_nil))) pa_nil))))))
(pss_one (ps_ret (pv 3))))), ?_⟩
  exact body_ok (m := m_page_rows) rfl (by decide) (ss_seq (ss_set 3 (se_lst sa_nil))
(ss_seq (ss_for (si_enum (sa_cons (se_callSD (fun _ _ _ _ h => h) .nil (sa_cons (se_var 2) sa_nil)) sa_nil)) (sg_tup (sgs_cons (sg_name 4) (sgs_cons (sg_name 5) sgs_nil)))
(ss_seq (ss_set 6 (se_fz (se_callSD (fun _ _ _ _ h => h) .nil (sa_cons (se_var 0) (sa_cons (se_fz (se_opS r2_add (se_var 4) (se_int 1))) sa_nil)))))
(ss_drop (se_bm bm_append (se_var 3) (sa_cons (se_tup (sa_cons (se_var 6) (sa_cons (se_fz (se_callSD (fun _ _ _ _ h => h) .nil (sa_cons (se_int _) (sa_cons (se_var 6) (sa_cons (se_var 1) (sa_cons (se_var 5) sa_nil)))))) sa_nil))) sa_nil)))))
(ss_ret (se_var 3)))) h

theorem ok__law_pool (T : Txt K mg A) : FnOk P w K mg base (L2.CX P w) 1 A.f__law_pool A.d__law_pool ["_law_script", "_law_k"] (spM (tb K A) m__law_pool) := by
  refine T.F__law_pool.okX sc__law_pool (fun vs H Q E h => h.1) (fun cdv A0 outer s H vs Q E hr h => ?_)
  refine ⟨_, (pss_cons (ps_set (i := 2) sc__law_pool.nd rfl (Or.inl rfl) pe_int)
(pss_cons (ps_if (pt_cmpR op_ltA (pv 1) (pe_callB (lenB (K := K) rfl) (by rfl) T.b_len PySem.boot_len (pa_cons (pv 0) pa_nil)) (nomark _))
(pss_one (ps_set (i := 2) sc__law_pool.nd rfl (Or.inl rfl) (pe_ix (ixAA (K := K) rfl hr.units) (pv 0) (pv 1) (fun _ _ => rfl))))
pss_nil)
(pss_cons (ps_set (i := 3) sc__law_pool.nd rfl (Or.inl rfl) (pe_callB (call_max2 rfl) (by rfl) T.b_max (by decide +kernel) (pa_cons (pe_callTy call_int1 (by rfl) T.b_int (by decide +kernel) (pa_cons (pv 2) pa_nil)) (pa_cons (pe_callTy call_int1 (by rfl) T.b_int (by decide +kernel) (pa_cons (pe_op op_sub (pe_un un_neg pe_int) (pv 2)) pa_nil)) pa_nil))))
(pss_cons (ps_set (i := 4) sc__law_pool.nd rfl (Or.inl rfl) (pe_op op_mod (pe_callTy call_int1 (by rfl) T.b_int (by decide +kernel) (pa_cons (pe_op op_mulA (pe_op (addA (K := K) rfl) (pe_op (addA (K := K) rfl) (pe_op (addA (K := K) rfl) (pe_op op_mod (pe_callTy call_int1 (by rfl) T.b_int (by decide +kernel) (pa_cons (pv 3) pa_nil)) pe_int) (pe_op op_mulA (pe_op op_mulA pe_int (pv 1)) (pv 1))) (pe_op op_mulA pe_int (pv 1))) pe_int) pe_int) pa_nil)) pe_int))
(pss_one (ps_ret (pe_lst (pa_cons (pe_op op_mulA (pv 3) (pe_callTy call_int1 (by rfl) T.b_int (by decide +kernel) (pa_cons (pe_cmpR op_geA (pv 3) (pe_op op_pow pe_int pe_int) (nomark _)) pa_nil))) (pa_cons (pv 4) pa_nil))))))))), ?_⟩
  exact body_ok (m := m__law_pool) rfl (by decide) (ss_seq (ss_set 2 (se_int 0))
(ss_seq (ss_if (st_test (se_op r2_lt (se_var 1) (se_fz (se_cb rc_lenB (sa_cons (se_var 0) sa_nil)))))
(ss_set 2 (se_ix (se_var 0) (se_var 1)))
ss_next)
(ss_seq (ss_set 3 (se_fz (se_cb rc_max (sa_cons (se_fz (se_cb rc_int (sa_cons (se_var 2) sa_nil))) (sa_cons (se_fz (se_cb rc_int (sa_cons (se_fz (se_op r2_sub (se_un r1_neg (se_int 1)) (se_var 2))) sa_nil))) sa_nil)))))
(ss_seq (ss_set 4 (se_fz (se_op r2_mod (se_fz (se_cb rc_int (sa_cons (se_fz (se_opS r2_mul (se_fz (se_opS r2_add (se_fz (se_opS r2_add (se_fz (se_opS r2_add (se_fz (se_op r2_mod (se_fz (se_cb rc_int (sa_cons (se_var 3) sa_nil))) (se_int 2147483629))) (se_fz (se_opS r2_mul (se_fz (se_opS r2_mul (se_int 7919) (se_var 1))) (se_var 1))))) (se_fz (se_opS r2_mul (se_int 31) (se_var 1))))) (se_int 17))) (se_int 48271))) sa_nil))) (se_int 2147483647))))
(ss_ret (se_lst (sa_cons (se_opS r2_mul (se_var 3) (se_fz (se_cb rc_int (sa_cons (se_op r2_ge (se_var 3) (se_fz (se_op r2_pow (se_int 10) (se_int 18)))) sa_nil)))) (sa_cons (se_var 4) sa_nil)))))))) h

theorem ok__law_take (T : Txt K mg A) : FnOk P w K mg base (L2.CX P w) 1 A.f__law_take A.d__law_take ["_law_source", "_law_top_it"] (spM (tb K A) m__law_take) := by
  refine T.F__law_take.okX sc__law_take (fun vs H Q E h => h.1) (fun cdv A0 outer s H vs Q E hr h => ?_)
  refine ⟨_, (pss_cons (ps_if (pt_cmpR op_gtA (pe_ix (ixAA (K := K) rfl hr.units) (pv 0) pe_int (fun _ _ => rfl)) pe_int (nomark _))
(pss_cons (ps_set (i := 2) sc__law_take.nd rfl (Or.inl rfl) (pe_op op_mod (pe_callTy call_int1 (by rfl) T.b_int (by decide +kernel) (pa_cons (pe_ix (ixAA (K := K) rfl hr.units) (pv 0) pe_int (fun _ _ => rfl)) pa_nil)) (pv 1)))
(pss_cons (ps_asg (pe_op op_fdiv (pe_ix (ixAA (K := K) rfl hr.units) (pv 0) pe_int (fun _ _ => rfl)) (pv 1)) (pg_sub (pv 0) pe_int (setAA hr.units)))
(pss_one (ps_ret (pv 2)))))
pss_nil)
(pss_cons (ps_asg (pe_op op_mod (pe_callTy call_int1 (by rfl) T.b_int (by decide +kernel) (pa_cons (pe_op (addA (K := K) rfl) (pe_op op_mulA (pe_ix (ixAA (K := K) rfl hr.units) (pv 0) pe_int (fun _ _ => rfl)) pe_int) pe_int) pa_nil)) pe_int) (pg_sub (pv 0) pe_int (setAA hr.units)))
(pss_one (ps_ret (pe_op op_mod (pe_callTy call_int1 (by rfl) T.b_int (by decide +kernel) (pa_cons (pe_op op_fdiv (pe_op op_mod (pe_callTy call_int1 (by rfl) T.b_int (by decide +kernel) (pa_cons (pe_op op_mulA (pe_ix (ixAA (K := K) rfl hr.units) (pv 0) pe_int (fun _ _ => rfl)) (pe_ix (ixAA (K := K) rfl hr.units) (pv 0) pe_int (fun _ _ => rfl))) pa_nil)) pe_int) pe_int) pa_nil)) (pv 1)))))), ?_⟩
  exact body_ok (m := m__law_take) rfl (by decide) (ss_seq (ss_if (st_test (se_op r2_gt (se_ix (se_var 0) (se_int 0)) (se_int 0)))
(ss_seq (ss_set 2 (se_fz (se_op r2_mod (se_fz (se_cb rc_int (sa_cons (se_ix (se_var 0) (se_int 0)) sa_nil))) (se_var 1))))
(ss_seq (ss_putIx (se_op r2_div (se_ix (se_var 0) (se_int 0)) (se_var 1)) (se_var 0) (se_int 0))
(ss_ret (se_var 2))))
ss_next)
(ss_seq (ss_putIx (se_op r2_mod (se_fz (se_cb rc_int (sa_cons (se_fz (se_opS r2_add (se_fz (se_opS r2_mul (se_ix (se_var 0) (se_int 1)) (se_int 39373))) (se_int 7))) sa_nil))) (se_int 2147483647)) (se_var 0) (se_int 1))
(ss_ret (se_op r2_mod (se_fz (se_cb rc_int (sa_cons (se_fz (se_op r2_div (se_fz (se_op r2_mod (se_fz (se_cb rc_int (sa_cons (se_fz (se_opS r2_mul (se_ix (se_var 0) (se_int 1)) (se_ix (se_var 0) (se_int 1)))) sa_nil))) (se_int 2147483629))) (se_int 32))) sa_nil))) (se_var 1))))) h

theorem ok__law_one (T : Txt K mg A) : FnOk P w K mg base (L2.CX P w) 2 A.f__law_one A.d__law_one ["_law_source", "_law_things"] (spM (tb K A) m__law_one) := by
  refine T.F__law_one.okX sc__law_one (fun vs H Q E h => h.1) (fun cdv A0 outer s H vs Q E hr h => ?_)
  refine ⟨_, (pss_one (ps_ret (pe_ix (ixAA (K := K) rfl hr.units) (pv 1) (pe_callSD (ok__law_take T) (hr.mono (by decide)) (by rfl) T.g__law_take T.F__law_take.kp T.B__law_take .nil (fun σ => passAt (takes_of rfl rfl rfl rfl) σ) (pa_cons (pv 0) (pa_cons (pe_callB (lenB (K := K) rfl) (by rfl) T.b_len PySem.boot_len (pa_cons (pv 1) pa_nil)) pa_nil))) (fun _ _ => rfl)))), ?_⟩
  exact body_ok (m := m__law_one) rfl (by decide) (ss_ret (se_ix (se_var 1) (se_callSD (fun _ _ _ _ h => h) .nil (sa_cons (se_var 0) (sa_cons (se_fz (se_cb rc_lenB (sa_cons (se_var 1) sa_nil))) sa_nil))))) h

theorem ok__law_numbers (T : Txt K mg A) : FnOk P w K mg base (L2.CX P w) 1 A.f__law_numbers A.d__law_numbers ["_law_many"] (spM (tb K A) m__law_numbers) := by
  refine T.F__law_numbers.okX sc__law_numbers (fun vs H Q E h => h.1) (fun cdv A0 outer s H vs Q E hr h => ?_)
  refine ⟨_, (pss_cons (ps_if (pt_cmpR op_ltA (pv 0) pe_int (nomark _))
(pss_one (ps_ret (pe_tup (pa_cons pe_int (pa_cons pe_int (pa_cons pe_int pa_nil))))))
pss_nil)
(pss_cons (ps_set (i := 1) sc__law_numbers.nd rfl (Or.inl rfl) (pe_ifExp (pt_cmpR (eqA (K := K) rfl hr.units) (pe_op op_mod (pe_callTy call_int1 (by rfl) T.b_int (by decide +kernel) (pa_cons (pv 0) pa_nil)) pe_int) pe_int (nomark _)) pe_int pe_int))
(pss_cons (ps_set (i := 2) sc__law_numbers.nd rfl (Or.inl rfl) (pe_op op_fdiv (pe_op op_sub (pe_op op_sub (pv 0) pe_int) (pe_op op_mulA pe_int (pv 1))) pe_int))
(pss_cons (ps_set (i := 3) sc__law_numbers.nd rfl (Or.inl rfl) (pe_lst (pa_cons (pe_op (addA (K := K) rfl) (pv 1) pe_int) (pa_cons (pv 1) (pa_cons (pv 1) pa_nil)))))
(pss_cons (ps_for (passes_of rfl) rfl (pi_range2 (by rfl) T.b_range (pa_cons pe_int (pa_cons (pe_op (addA (K := K) rfl) (pv 1) pe_int) pa_nil))) (pg_name (i := 4) sc__law_numbers.nd rfl (Or.inl rfl))
(pss_one (ps_set (i := 3) sc__law_numbers.nd rfl (Or.inl rfl) (pe_op (addA (K := K) rfl) (pv 3) (pe_lst (pa_cons (pv 4) (pa_cons pe_int (pa_cons (pv 4) pa_nil))))))))
(pss_cons (ps_for (passes_of rfl) rfl (pi_range2 (by rfl) T.b_range (pa_cons pe_int (pa_cons (pe_op (addA (K := K) rfl) (pv 1) pe_int) pa_nil))) (pg_name (i := 4) sc__law_numbers.nd rfl (Or.inl rfl))
(pss_cons (ps_set (i := 3) sc__law_numbers.nd rfl (Or.inl rfl) (pe_op (addA (K := K) rfl) (pv 3) (pe_lst (pa_cons (pv 4) (pa_cons (pv 4) (pa_cons pe_int (pa_cons pe_int (pa_cons pe_int (pa_cons pe_int (pa_cons pe_int (pa_cons (pe_op (addA (K := K) rfl) pe_int (pv 4)) (pa_cons pe_int (pa_cons (pe_ifExp (pt_cmpR (eqA (K := K) rfl hr.units) (pv 4) pe_int (nomark _)) (pv 2) pe_int) pa_nil)))))))))))))
(pss_one (ps_if (pt_cmpR (eqA (K := K) rfl hr.units) (pv 4) pe_int (nomark _))
(pss_one (ps_for (passes_of rfl) rfl (pi_range1 (by rfl) T.b_range (pa_cons (pv 2) pa_nil)) (pg_name (i := 5) sc__law_numbers.nd rfl (Or.inl rfl))
(pss_one (ps_expr (pe_bm PySem.F.plainAttrs_list PySem.F.slot_list_extend PySem.F.type_list_extend (mt_extA (K := K) rfl) (pv 3) (pa_cons (pe_lst (pa_cons (pe_op (addA (K := K) rfl) pe_int (pv 5)) (pa_cons (pe_op (addA (K := K) rfl) pe_int (pv 5)) pa_nil))) pa_nil))))))
pss_nil))))
(pss_one (ps_ret (pe_callTy (tupA (K := K) rfl) (by rfl) T.b_tuple (by decide +kernel) (pa_cons (pv 3) pa_nil)))))))))), ?_⟩
  exact body_ok (m := m__law_numbers) rfl (by decide) (ss_seq (ss_if (st_test (se_op r2_lt (se_var 0) (se_int 16)))
(ss_ret (se_tup (sa_cons (se_int 7) (sa_cons (se_int 0) (sa_cons (se_int 0) sa_nil)))))
ss_next)
(ss_seq (ss_set 1 (se_fz (se_if (st_test (se_op r2_eq (se_fz (se_op r2_mod (se_fz (se_cb rc_int (sa_cons (se_var 0) sa_nil))) (se_int 2))) (se_int 0))) (se_int 1) (se_int 2))))
(ss_seq (ss_set 2 (se_fz (se_op r2_div (se_fz (se_op r2_sub (se_fz (se_op r2_sub (se_var 0) (se_int 3))) (se_fz (se_opS r2_mul (se_int 13) (se_var 1))))) (se_int 2))))
(ss_seq (ss_set 3 (se_lst (sa_cons (se_opS r2_add (se_var 1) (se_int 1)) (sa_cons (se_var 1) (sa_cons (se_var 1) sa_nil)))))
(ss_seq (ss_for (si_range2 (sa_cons (se_int 1) (sa_cons (se_opS r2_add (se_var 1) (se_int 1)) sa_nil))) (sg_name 4)
(ss_set 3 (se_opS r2_add (se_var 3) (se_fz (se_lst (sa_cons (se_var 4) (sa_cons (se_int 0) (sa_cons (se_var 4) sa_nil))))))))
(ss_seq (ss_for (si_range2 (sa_cons (se_int 1) (sa_cons (se_opS r2_add (se_var 1) (se_int 1)) sa_nil))) (sg_name 4)
(ss_seq (ss_set 3 (se_opS r2_add (se_var 3) (se_fz (se_lst (sa_cons (se_var 4) (sa_cons (se_var 4) (sa_cons (se_int 0) (sa_cons (se_int 0) (sa_cons (se_int 0) (sa_cons (se_int 0) (sa_cons (se_int 0) (sa_cons (se_opS r2_add (se_int 41) (se_var 4)) (sa_cons (se_int 5) (sa_cons (se_if (st_test (se_op r2_eq (se_var 4) (se_int 1))) (se_var 2) (se_int 0)) sa_nil))))))))))))))
(ss_if (st_test (se_op r2_eq (se_var 4) (se_int 1)))
(ss_for (si_range1 (sa_cons (se_var 2) sa_nil)) (sg_name 5)
(ss_drop (se_bm bm_extA (se_var 3) (sa_cons (se_lst (sa_cons (se_opS r2_add (se_int 41) (se_var 5)) (sa_cons (se_opS r2_add (se_int 1) (se_var 5)) sa_nil))) sa_nil))))
ss_next)))
(ss_ret (se_cbS rc_tuple (sa_cons (se_var 3) sa_nil))))))))) h

theorem ok__law_fitting (T : Txt K mg A) : FnOk P w K mg base (L2.CX P w) 5 A.f__law_fitting A.d__law_fitting ["_law_book"] (spM (tb K A) m__law_fitting) := by
  refine T.F__law_fitting.okX sc__law_fitting (fun vs H Q E h => h.1) (fun cdv A0 outer s H vs Q E hr h => ?_)
  refine ⟨_, (pss_cons (ps_try_as (i := 1) rfl rfl sc__law_fitting.nd rfl rfl ⟨rfl, by decide, Or.inl T.g_BookFull⟩ (takes_of rfl rfl rfl rfl)
  (fun W pn xe tkl _ => (pss_one (ps_ret (pe_and (pe_cmpR op_isA (pe_callSD (ok_need_fitting T) (hr.mono (by decide)) (by rfl) T.g_need_fitting T.F_need_fitting.kp T.B_need_fitting .nil (fun σ => passAt tkl σ) (pa_cons (pv 0) pa_nil)) pe_non (nomark _)) (pe_one (pe_tup (pa_cons pe_str pa_nil)))))))
  (fun a oe cls d pn hz hf => pss_one (ps_ret (pe_tup (pa_cons pe_str (pa_cons (pe_whatG T.exs hz hf (pv 1)) (pa_cons (pe_and (pe_callB (call_isX T.iss hz hf) (by rfl) T.b_isinstance (by decide +kernel) (pa_cons (pv 1) (pa_cons (pe_glob (v := .ref A.c_Refused) (by rfl) T.g_Refused rfl) pa_nil))) (pe_and (pe_callB (call_isX T.iss hz hf) (by rfl) T.b_isinstance (by decide +kernel) (pa_cons (pv 1) (pa_cons (pe_bltn (v := .ty "ValueError") (by rfl) T.b_ValueError (by decide +kernel) rfl) pa_nil))) (pe_one (pe_not (pe_callB (call_isX T.iss hz hf) (by rfl) T.b_isinstance (by decide +kernel) (pa_cons (pv 1) (pa_cons (pe_glob (v := .ref A.c_NoRoom) (by rfl) T.g_NoRoom rfl) pa_nil))))))) pa_nil))))))) pss_nil), ?_⟩
  exact body_ok (m := m__law_fitting) rfl (by decide) (ss_seq (ss_tryR (n := 2) (i := 1) (by decide) T.m_BookFull (fun W => (ss_ret (se_and (se_op r2_is (se_fz (se_callSD (fun _ _ _ _ h => h) .nil (sa_cons (se_var 0) sa_nil))) se_non) (se_tup (sa_cons (se_str "fits") sa_nil)))))
 (fun c w a d v L s hc hd hr hs hl => (se_tup (sa_cons (se_str "full") (sa_cons (se_what (cls_in hc) hd hr hs hl) (sa_cons (se_fz (se_and (se_isX (cls_in hc) hd hs hl (T.k_Refused c hc)) (se_and (se_isXb (cls_in hc) hd hs hl (T.k_ValueError c hc)) (se_not (se_isX (cls_in hc) hd hs hl (T.k_NoRoom c hc)))))) sa_nil)))))) ss_next) h

theorem ok__law_size (T : Txt K mg A) : FnOk P w K mg base (L2.CX P w) 3 A.f__law_size A.d__law_size ["_law_source"] (spM (tb K A) m__law_size) := by
  refine T.F__law_size.okX sc__law_size (fun vs H Q E h => h.1) (fun cdv A0 outer s H vs Q E hr h => ?_)
  refine ⟨_, (pss_cons (ps_set (i := 1) sc__law_size.nd rfl (Or.inl rfl) (pe_callSD (ok__law_one T) (hr.mono (by decide)) (by rfl) T.g__law_one T.F__law_one.kp T.B__law_one .nil (fun σ => passAt (takes_of rfl rfl rfl rfl) σ) (pa_cons (pv 0) (pa_cons (pe_lst (pa_cons pe_int (pa_cons pe_int (pa_cons pe_int (pa_cons pe_int (pa_cons pe_int (pa_cons pe_int (pa_cons pe_int (pa_cons pe_int (pa_cons pe_int (pa_cons pe_int (pa_cons pe_int (pa_cons pe_int (pa_cons pe_int (pa_cons pe_int (pa_cons pe_int (pa_cons pe_int (pa_cons (pe_op (addA (K := K) rfl) pe_int (pe_callSD (ok__law_take T) (hr.mono (by decide)) (by rfl) T.g__law_take T.F__law_take.kp T.B__law_take .nil (fun σ => passAt (takes_of rfl rfl rfl rfl) σ) (pa_cons (pv 0) (pa_cons pe_int pa_nil)))) pa_nil)))))))))))))))))) pa_nil))))
(pss_one (ps_ret (pe_ifExp (PW.pt (pw_and (pt_cmpR op_gtA (pv 1) pe_int (nomark _)) (pw_and (pt_cmpR op_ltA (pv 1) pe_int (nomark _)) (pw_and1 (pt_cmpR (eqA (K := K) rfl hr.units) (pe_op op_mod (pe_callTy call_int1 (by rfl) T.b_int (by decide +kernel) (pa_cons (pv 1) pa_nil)) pe_int) pe_int (nomark _)))))) (pe_op (addA (K := K) rfl) (pv 1) pe_int) (pv 1))))), ?_⟩
  exact body_ok (m := m__law_size) rfl (by decide) (ss_seq (ss_set 1 (se_fz (se_callSD (fun _ _ _ _ h => h) .nil (sa_cons (se_var 0) (sa_cons (se_fz (se_lst (sa_cons (se_int 3) (sa_cons (se_int 16) (sa_cons (se_int 59) (sa_cons (se_int 60) (sa_cons (se_int 61) (sa_cons (se_int 119) (sa_cons (se_int 120) (sa_cons (se_int 121) (sa_cons (se_int 540) (sa_cons (se_int 598) (sa_cons (se_int 599) (sa_cons (se_int 600) (sa_cons (se_int 601) (sa_cons (se_int 602) (sa_cons (se_int 600) (sa_cons (se_int 601) (sa_cons (se_opS r2_add (se_int 16) (se_fz (se_callSD (fun _ _ _ _ h => h) .nil (sa_cons (se_var 0) (sa_cons (se_int 625) sa_nil))))) sa_nil))))))))))))))))))) sa_nil)))))
(ss_ret (se_if (st_and (st_test (se_op r2_gt (se_var 1) (se_int 16))) (st_and (st_test (se_op r2_lt (se_var 1) (se_int 29))) (st_test (se_op r2_eq (se_fz (se_op r2_mod (se_fz (se_cb rc_int (sa_cons (se_var 1) sa_nil))) (se_int 2))) (se_int 1))))) (se_opS r2_add (se_var 1) (se_int 2)) (se_var 1)))) h

theorem ok_law (T : Txt K mg A) : FnOk P w K mg base (L2.CX P w) 6 A.f_law A.d_law ["_law_script"] (spM (tb K A) m_law) := by
  refine T.F_law.okX sc_law (fun vs H Q E h => h.1) (fun cdv A0 outer s H vs Q E hr h => ?_)
  refine ⟨_, (pss_cons (ps_for (passes_of rfl) rfl (pi_range1 (by rfl) T.b_range (pa_cons (pe_callB (call_max2 rfl) (by rfl) T.b_max (by decide +kernel) (pa_cons pe_int (pa_cons (pe_callB (call_min2 rfl) (by rfl) T.b_min (by decide +kernel) (pa_cons (pe_callB (lenB (K := K) rfl) (by rfl) T.b_len PySem.boot_len (pa_cons (pv 0) pa_nil)) (pa_cons pe_int pa_nil))) pa_nil))) pa_nil)) (pg_name (i := 1) sc_law.nd rfl (Or.inl rfl))
(pss_cons (ps_set (i := 2) sc_law.nd rfl (Or.inl rfl) (pe_callSD (ok__law_pool T) (hr.mono (by decide)) (by rfl) T.g__law_pool T.F__law_pool.kp T.B__law_pool .nil (fun σ => passAt (takes_of rfl rfl rfl rfl) σ) (pa_cons (pv 0) (pa_cons (pv 1) pa_nil))))
(pss_cons (ps_set (i := 3) sc_law.nd rfl (Or.inl rfl) (pe_callSD (ok__law_size T) (hr.mono (by decide)) (by rfl) T.g__law_size T.F__law_size.kp T.B__law_size .nil (fun σ => passAt (takes_of rfl rfl rfl rfl) σ) (pa_cons (pv 2) pa_nil)))
(pss_cons (ps_set (i := 3) sc_law.nd rfl (Or.inl rfl) (pe_ifExp (PW.pt (pw_and (pt_cmpR op_ltA (pv 3) pe_int (nomark _)) (pw_and (pt_cmpR op_gtA (pv 3) pe_int (nomark _)) (pw_and1 (pt_cmpR (eqA (K := K) rfl hr.units) (pe_op op_mod (pe_callTy call_int1 (by rfl) T.b_int (by decide +kernel) (pa_cons (pv 3) pa_nil)) pe_int) pe_int (nomark _)))))) pe_int (pv 3)))
(pss_cons (ps_set (i := 4) sc_law.nd rfl (Or.inr rfl) (pe_callSD (ok__law_numbers T) (hr.mono (by decide)) (by rfl) T.g__law_numbers T.F__law_numbers.kp T.B__law_numbers .nil (fun σ => passAt (takes_of rfl rfl rfl rfl) σ) (pa_cons (pv 3) pa_nil)))
(pss_cons (ps_set (i := 5) sc_law.nd rfl (Or.inl rfl) (pe_callSD (ok_book_of T) (hr.mono (by decide)) (by rfl) T.g_book_of T.F_book_of.kp T.B_book_of .nil (fun σ => passAt (takes_of rfl rfl rfl rfl) σ) (pa_cons (pv 4) pa_nil)))
(pss_cons (ps_if (PW.pt (pw_or (pt_cmpR (neA (K := K) rfl hr.units) (pe_callB (lenB (K := K) rfl) (by rfl) T.b_len PySem.boot_len (pa_cons (pv 4) pa_nil)) (pv 3) (nomark _)) (pw_or1 (pt_cmpR (neA (K := K) rfl hr.units) (pe_callSD (ok_book_numbers T) (hr.mono (by decide)) (by rfl) T.g_book_numbers T.F_book_numbers.kp T.B_book_numbers .nil (fun σ => passAt (takes_of rfl rfl rfl rfl) σ) (pa_cons (pv 5) pa_nil)) (pv 4) (nomark _)))))
(pss_one (ps_ret pe_bl))
pss_nil)
(pss_cons (ps_if (pt_cmpR (neA (K := K) rfl hr.units) (pe_callSD (ok__law_fitting T) (hr.mono (by decide)) (by rfl) T.g__law_fitting T.F__law_fitting.kp T.B__law_fitting .nil (fun σ => passAt (takes_of rfl rfl rfl rfl) σ) (pa_cons (pv 5) pa_nil)) (pe_ifExp (pt_cmpR op_leA (pv 3) pe_int (nomark _)) (pe_tup (pa_cons pe_str pa_nil)) (pe_tup (pa_cons pe_str (pa_cons (pv 3) (pa_cons pe_bl pa_nil))))) (nomark _))
(pss_one (ps_ret pe_bl))
pss_nil)
(pss_cons (ps_set (i := 6) sc_law.nd rfl (Or.inl rfl) (pe_ifExp (pt_cmpR op_leA (pv 3) pe_int (nomark _)) (pe_callSD (ok_pages_of T) (hr.mono (by decide)) (by rfl) T.g_pages_of T.F_pages_of.kp T.B_pages_of .nil (fun σ => passAt (takes_of rfl rfl rfl rfl) σ) (pa_cons (pv 4) pa_nil)) (pe_lc (own := [("_law_at", 9)]) (g := (gName 9)) (tt := tYes) rfl sc_law.nd (pi_range3 (by rfl) T.b_range (pa_cons pe_int (pa_cons (pv 3) (pa_cons pe_int pa_nil)))) (blkOk_by (N := ["_law_script", "_law_k", "_law_source", "_law_many", "_law_numbers_here", "_law_book", "_law_pages", "_law_flat", "_law_page", "_law_at", "_law_spot", "_law_row"]) (sc := defScope s_law) (by decide +kernel)) (fun _ _ _ _ _ => (pg_name (i := 9) sc_law.nd rfl (Or.inl rfl))) (fun _ _ _ _ _ => pts_nil) (fun _ _ _ _ _ => (pe_slice (slA (K := K) rfl) (pv 4) (po_some (pv 9)) (po_some (pe_op (addA (K := K) rfl) (pv 9) pe_int)))))))
(pss_cons (ps_if (PW.pt (pw_or (pt_cmpR (neA (K := K) rfl hr.units) (pe_lc (own := [("_law_page", 8)]) (g := (gName 8)) (tt := tYes) rfl sc_law.nd (pi_seq (pe_slice (slA (K := K) rfl) (pv 6) po_none (po_some (pe_un un_neg pe_int)))) (blkOk_by (N := ["_law_script", "_law_k", "_law_source", "_law_many", "_law_numbers_here", "_law_book", "_law_pages", "_law_flat", "_law_page", "_law_at", "_law_spot", "_law_row"]) (sc := defScope s_law) (by decide +kernel)) (fun _ _ _ _ _ => (pg_name (i := 8) sc_law.nd rfl (Or.inl rfl))) (fun _ _ _ _ _ => pts_nil) (fun _ _ _ _ _ => (pe_callB (lenB (K := K) rfl) (by rfl) T.b_len PySem.boot_len (pa_cons (pv 8) pa_nil)))) (pe_op op_mulA (pe_lst (pa_cons pe_int pa_nil)) (pe_op op_fdiv (pe_op op_sub (pv 3) pe_int) pe_int)) (nomark _)) (pw_or1 (pt_cmpR (neA (K := K) rfl hr.units) (pe_callB (lenB (K := K) rfl) (by rfl) T.b_len PySem.boot_len (pa_cons (pe_ix (ixAA (K := K) rfl hr.units) (pv 6) (pe_un un_neg pe_int) (fun _ _ => rfl)) pa_nil)) (pe_op op_sub (pv 3) (pe_op op_mulA pe_int (pe_op op_fdiv (pe_op op_sub (pv 3) pe_int) pe_int))) (nomark _)))))
(pss_one (ps_ret pe_bl))
pss_nil)
(pss_cons (ps_set (i := 7) sc_law.nd rfl (Or.inl rfl) (pe_lst pa_nil))
(pss_cons (ps_for (passes_of rfl) rfl (pi_seq (pv 6)) (pg_name (i := 8) sc_law.nd rfl (Or.inl rfl))
(pss_one (ps_expr (pe_bm PySem.F.plainAttrs_list PySem.F.slot_list_extend PySem.F.type_list_extend (mt_extA (K := K) rfl) (pv 7) (pa_cons (pv 8) pa_nil)))))
(pss_cons (ps_if (PW.pt (pw_or (pt_cmpR (neA (K := K) rfl hr.units) (pe_callTy (tupA (K := K) rfl) (by rfl) T.b_tuple (by decide +kernel) (pa_cons (pv 7) pa_nil)) (pv 4) (nomark _)) (pw_or1 (pt_cmpR (neA (K := K) rfl hr.units) (pe_callSD (ok__law_fitting T) (hr.mono (by decide)) (by rfl) T.g__law_fitting T.F__law_fitting.kp T.B__law_fitting .nil (fun σ => passAt (takes_of rfl rfl rfl rfl) σ) (pa_cons (pv 5) pa_nil)) (pe_ifExp (pt_cmpR op_leA (pv 3) pe_int (nomark _)) (pe_tup (pa_cons pe_str pa_nil)) (pe_tup (pa_cons pe_str (pa_cons (pv 3) (pa_cons pe_bl pa_nil))))) (nomark _)))))
(pss_one (ps_ret pe_bl))
pss_nil)
(pss_cons (ps_if (PW.pt (pw_or (pt_cmpR (neA (K := K) rfl hr.units) (pe_callSD (ok_book_numbers T) (hr.mono (by decide)) (by rfl) T.g_book_numbers T.F_book_numbers.kp T.B_book_numbers .nil (fun σ => passAt (takes_of rfl rfl rfl rfl) σ) (pa_cons (pv 5) pa_nil)) (pv 4) (nomark _)) (pw_or1 (pt_cmpR (neA (K := K) rfl hr.units) (pe_callSD (ok__law_fitting T) (hr.mono (by decide)) (by rfl) T.g__law_fitting T.F__law_fitting.kp T.B__law_fitting .nil (fun σ => passAt (takes_of rfl rfl rfl rfl) σ) (pa_cons (pv 5) pa_nil)) (pe_ifExp (pt_cmpR op_leA (pv 3) pe_int (nomark _)) (pe_tup (pa_cons pe_str pa_nil)) (pe_tup (pa_cons pe_str (pa_cons (pv 3) (pa_cons pe_bl pa_nil))))) (nomark _)))))
(pss_one (ps_ret pe_bl))
pss_nil)
(pss_one (ps_if (PW.pt (pw_and (pt_cmpR op_leA (pv 3) pe_int (nomark _)) (pw_and1 (pt_cmpR (neA (K := K) rfl hr.units) (pe_lc (own := [("_law_spot", 10), ("_law_row", 11)]) (g := (gTup K 2 (gCons (gName 10) (gCons (gName 11) gNil)))) (tt := tYes) rfl sc_law.nd (pi_seq (pe_callSD (ok_page_rows T) (hr.mono (by decide)) (by rfl) T.g_page_rows T.F_page_rows.kp T.B_page_rows .nil (fun σ => passAt (takes_of rfl rfl rfl rfl) σ) (pa_cons pe_int (pa_cons pe_int (pa_cons (pv 4) pa_nil))))) (blkOk_by (N := ["_law_script", "_law_k", "_law_source", "_law_many", "_law_numbers_here", "_law_book", "_law_pages", "_law_flat", "_law_page", "_law_at", "_law_spot", "_law_row"]) (sc := defScope s_law) (by decide +kernel)) (fun _ _ _ _ _ => (pg_tup rfl (pgs_cons (pg_name (i := 10) sc_law.nd rfl (Or.inl rfl)) (pgs_cons (pg_name (i := 11) sc_law.nd rfl (Or.inl rfl)) pgs_nil)))) (fun _ _ _ _ _ => pts_nil) (fun _ _ _ _ _ => (pe_slice (slA (K := K) rfl) (pv 11) (po_some pe_int) (po_some (pe_un un_neg pe_int))))) (pv 6) (nomark _)))))
(pss_one (ps_ret pe_bl))
pss_nil))))))))))))))))
(pss_one (ps_ret pe_bl))), ?_⟩
  exact body_ok (m := m_law) rfl (by decide) (ss_seq (ss_for (si_range1 (sa_cons (se_cb rc_max (sa_cons (se_int 1) (sa_cons (se_fz (se_cb rc_min (sa_cons (se_fz (se_cb rc_lenB (sa_cons (se_var 0) sa_nil))) (sa_cons (se_int 2) sa_nil)))) sa_nil))) sa_nil)) (sg_name 1)
(ss_seq (ss_set 2 (se_callSD (fun _ _ _ _ h => h) .nil (sa_cons (se_var 0) (sa_cons (se_var 1) sa_nil))))
(ss_seq (ss_set 3 (se_fz (se_callSD (fun _ _ _ _ h => h) .nil (sa_cons (se_var 2) sa_nil))))
(ss_seq (ss_set 3 (se_fz (se_if (st_and (st_test (se_op r2_lt (se_var 3) (se_int 29))) (st_and (st_test (se_op r2_gt (se_var 3) (se_int 16))) (st_test (se_op r2_eq (se_fz (se_op r2_mod (se_fz (se_cb rc_int (sa_cons (se_var 3) sa_nil))) (se_int 2))) (se_int 1))))) (se_int 29) (se_var 3))))
(ss_seq (ss_set 4 (se_fz (se_callSD (fun _ _ _ _ h => h) .nil (sa_cons (se_var 3) sa_nil))))
(ss_seq (ss_set 5 (se_fz (se_callSD (fun _ _ _ _ h => h) .nil (sa_cons (se_var 4) sa_nil))))
(ss_seq (ss_if (st_or (st_test (se_op r2_ne (se_fz (se_cb rc_lenB (sa_cons (se_var 4) sa_nil))) (se_var 3))) (st_test (se_op r2_ne (se_fz (se_callSD (fun _ _ _ _ h => h) .nil (sa_cons (se_var 5) sa_nil))) (se_var 4))))
(ss_ret (se_bl false))
ss_next)
(ss_seq (ss_if (st_test (se_op r2_ne (se_fz (se_callSD (fun _ _ _ _ h => h) .nil (sa_cons (se_var 5) sa_nil))) (se_fz (se_if (st_test (se_op r2_le (se_var 3) (se_int 600))) (se_tup (sa_cons (se_str "fits") sa_nil)) (se_tup (sa_cons (se_str "full") (sa_cons (se_var 3) (sa_cons (se_bl true) sa_nil))))))))
(ss_ret (se_bl false))
ss_next)
(ss_seq (ss_set 6 (se_fz (se_if (st_test (se_op r2_le (se_var 3) (se_int 600))) (se_callSD (fun _ _ _ _ h => h) .nil (sa_cons (se_var 4) sa_nil)) (se_lc (by decide) (si_range3 (sa_cons (se_int 0) (sa_cons (se_var 3) (sa_cons (se_int 60) sa_nil)))) (sg_name 9) st_yes (se_sl (se_var 4) (so_some (se_var 9)) (so_some (se_opS r2_add (se_var 9) (se_int 60))))))))
(ss_seq (ss_if (st_or (st_test (se_op r2_ne (se_fz (se_lc (by decide) (si_any (se_sl (se_var 6) so_none (so_some (se_un r1_neg (se_int 1))))) (sg_name 8) st_yes (se_cb rc_lenB (sa_cons (se_var 8) sa_nil)))) (se_fz (se_opS r2_mul (se_fz (se_lst (sa_cons (se_int 60) sa_nil))) (se_fz (se_op r2_div (se_fz (se_op r2_sub (se_var 3) (se_int 1))) (se_int 60))))))) (st_test (se_op r2_ne (se_fz (se_cb rc_lenB (sa_cons (se_ix (se_var 6) (se_un r1_neg (se_int 1))) sa_nil))) (se_fz (se_op r2_sub (se_var 3) (se_fz (se_opS r2_mul (se_int 60) (se_fz (se_op r2_div (se_fz (se_op r2_sub (se_var 3) (se_int 1))) (se_int 60))))))))))
(ss_ret (se_bl false))
ss_next)
(ss_seq (ss_set 7 (se_lst sa_nil))
(ss_seq (ss_for (si_any (se_var 6)) (sg_name 8)
(ss_drop (se_bm bm_extA (se_var 7) (sa_cons (se_var 8) sa_nil))))
(ss_seq (ss_if (st_or (st_test (se_op r2_ne (se_fz (se_cbS rc_tuple (sa_cons (se_var 7) sa_nil))) (se_var 4))) (st_test (se_op r2_ne (se_fz (se_callSD (fun _ _ _ _ h => h) .nil (sa_cons (se_var 5) sa_nil))) (se_fz (se_if (st_test (se_op r2_le (se_var 3) (se_int 600))) (se_tup (sa_cons (se_str "fits") sa_nil)) (se_tup (sa_cons (se_str "full") (sa_cons (se_var 3) (sa_cons (se_bl true) sa_nil)))))))))
(ss_ret (se_bl false))
ss_next)
(ss_seq (ss_if (st_or (st_test (se_op r2_ne (se_fz (se_callSD (fun _ _ _ _ h => h) .nil (sa_cons (se_var 5) sa_nil))) (se_var 4))) (st_test (se_op r2_ne (se_fz (se_callSD (fun _ _ _ _ h => h) .nil (sa_cons (se_var 5) sa_nil))) (se_fz (se_if (st_test (se_op r2_le (se_var 3) (se_int 600))) (se_tup (sa_cons (se_str "fits") sa_nil)) (se_tup (sa_cons (se_str "full") (sa_cons (se_var 3) (sa_cons (se_bl true) sa_nil)))))))))
(ss_ret (se_bl false))
ss_next)
(ss_if (st_and (st_test (se_op r2_le (se_var 3) (se_int 600))) (st_test (se_op r2_ne (se_fz (se_lc (by decide) (si_any (se_callSD (fun _ _ _ _ h => h) .nil (sa_cons (se_int 1) (sa_cons (se_int 9) (sa_cons (se_var 4) sa_nil))))) (sg_tup (sgs_cons (sg_name 10) (sgs_cons (sg_name 11) sgs_nil))) st_yes (se_sl (se_var 11) (so_some (se_int 4)) (so_some (se_un r1_neg (se_int 1)))))) (se_var 6))))
(ss_ret (se_bl false))
ss_next)))))))))))))))
(ss_ret (se_bl true))) h

end
end Lw
namespace Lw
open PySem L2 Mr
local macro_rules | `(tactic| walk_at "mev") => `(tactic| try simp -implicitDefEqProofs (disch := first | omega | (simp only [List.length_cons, List.length_nil, List.length_append, List.length_map, List.length_set, List.length_take, List.length_drop]; omega)) only [at_dead_1, at_head_2, at_ident_1, at_mark_1, at_name_2, at_next_id_3, at_prev_1, at_quota_2, at_roots_3, at_snap_1, at_time_1, at_top_1, at_volume_1, at_volumes_3, ix_Root_ident, in_Root_ident, ix_Root_volume, in_Root_volume, ix_Root_snap, in_Root_snap, ix_Root_prev, in_Root_prev, ix_Root_time, in_Root_time, ix_Root_mark, in_Root_mark, ix_Root_top, in_Root_top, ix_Root_dead, in_Root_dead, ix_Volume_name, in_Volume_name, ix_Volume_quota, in_Volume_quota, ix_Volume_head, in_Volume_head, ix_Book_next_id, in_Book_next_id, ix_Book_volumes, in_Book_volumes, ix_Book_roots, in_Book_roots, wg_some, wf_nil, kn_nx, kn_ct, kn_bk, kn_rt, kn_ex, m1k_s, wm_par, wm_par3, parB_3, parB'_t, par3b_some, par3c_some, ixOf_nil, ixOf_int, ixO2_t, ixO2_fn, ixO2_fs, nn_non, nn_int, nn_tup, nn_lst, nn_str, fo_lst, fo_dic, fo_obj, fk_int, fk_str, fk_bl, fk_non, fk_fz, fk_lst, fk_dic, fk_obj, fk_tup, fk_iL, fk_wr, List.all_append, wrap1_tup, wtup_t, wtup_f, Nat.zero_add, fld_some, fld3_t, kidAt_O, kidAt_D, ix3_D, key_int, key_str, ixK_some, putFA_2, putFd_O, putF0_t, putF1_s, putF1_n, make2_some, wm_dnew, putIx_D, putDc_s, nal_al, frt_f, cutN_no, cutN_im, cutN_ow, cutN_fS, rvT_al, rvT2_t, datS_P, getP_nil, getP_cons, getP2_some, kids_obj, kids_lst, kids_tup, kids_dic, putP_nil, putP_cons, putP2_some, setK_obj, setK_lst, setK_dic, datR_P, datR2_lst, datR2_dic, datR2_obj, stP_im, stP_fr, stP0_t, stP1_ow, stP2_dic, stP2_lst, stP2_obj, stP3_dic, stP3_lst, stP3_obj, opExt_1, opExtA_1, extA_L, extA_T, ext_L, exO1_t, exO2_ok, wr_iL, kw_T, kw_F, putDk_some, putDc_n, map_pw, wb_ok, wb_ex, wt_ok, wt_ex, wi_ok, wi_ex, wab_ok, wab_ex, wat_ok, wat_ex, wai_ok, wai_ex, ab1_some, at1_some, ai1_some, ws_nx, ws_rt, ws_bk, ws_ct, ws_ex, wp_im, wp_va, wp_fr, wp_bo, wpu_ok, wpu_ex, pend2_im, pend2_fr, wa_nil, wa_cons, wa_im, wa_va, wa_fr, wa_bo, wa_ex, wa_2, wa_2x, wa_3, wa_3x, wm_var, wm_mv, wm_c, wm_op, wm_opS, wm_un, wm_unS, wm_tup, wm_lst, wm_cb, wm_cbS, wm_B, wm_tru, wm_if, wm_andT, wm_orT, wm_notT, wm_and, wm_or, wm_not, ifE_t, ifE_f, wm_int, wm_ch, wm_sl, wm_m1, wm_ix, wm_fld, wm_con, wm_din, wm_call, wm_callD, wm_callK, wm_chk, wx_chk, wm_bm, wm_meth, wm_make, wm_make1, wmk_ok, wmk_ex, wm_lc, wlc_ok, wlc_ex, wm_iAny, wm_iOf, wm_seq, wm_next, wm_brk, wm_cont, wm_drop, wm_ret, wm_retN, wm_ifS, ifS_t, ifS_f, wm_set, wm_aug, wm_asg, optS_some, optE_some, wm_putIx, wm_putFd, wm_augIx, wm_augFd, wm_augS, wau_ok, wau_ex, wm_for, wfo_ok, wfo_ex, wm_forL, wm_raise, wm_try, wtr_nx, wtr_rt, wm_suit, g0, gS, varR_im, varR_ow, varR_al, datR_im, datR_fr, datR_b0, op2_some, op1_some, ov_im, ov_fr, wr_nx, wr_rt, wr_ex, wo_some, nal_nil, nal_no, nal_im, nal_ow, nal_fS, s0, sS, t0, tS, frontK_0, frontK_S, nTp_nil, nTp_im, nTp_va, nTp_tp, rvs_nil, rvs_im, rvs_va, rvs_tp, rvT_im, rvT_ow, consO_ss, avOk_nil, avOk_im, avOk_tp, avOk_va, ev_pop, pop_im, pop_ow, ev_datP, datS_ow, datS_im, dats_nil, dats_cons, dats2_some, cb1_some, cbS1_some, one_1, two_2, ev_stayA, stay4_t, ev_front, frt_t, stay3_ow, stay3_im, flatR_im, flatR_fr, flatR_bo, flat2_some, flat3_t, flat3_f, flats_nil, flats_cons, flats1_some, itms2_some, op2f_some, op2s_some, op1f_some, slR_some, frz1_im, frz1_fr, frz1_bo, frz2_some, frz3_t, frz3_f, frzs_nil, frzs_cons, frzs1_some, frzs2_some, wm_fz, fz1_im, fz1_fr, fz1_bo, itms_nil, itms_cons, itms1_some, itm_im, itm_fr, itm_bo, itm2_some, itm3_t, itm3_f, its1_some, lstR_ok, tupR_ok, tup2_t, tup2_f, imm_int, imm_bl, imm_str, imm_non, imm_tup, imm_lst, imm_fz, imm_dic, imm_obj, immL_nil, immL_cons, immL_iL, mut_lst, mut_dic, mut_obj, wrap1_lst, wrap1_int, wrap1_str, wrap1_bl, wrap1_non, wrap_lst, unfz_int, unfz_str, unfz_bl, unfz_non, unfz_tup, unfz_lst, unfz_scr, unfz_dic, unfz_obj, unfz_fz, plain_lst, plain_tup, plain_int, plain_str, plain_bl, plain_non, plain_fz, plain_dic, plain_obj, plain_iL, ev_setS, setS4_t, setS3_no, setS3_im, setS3_ow, setS3_fS, setRv_im, setRv_fr, par2_some, parOk_im, parOk_fr, parA_2, parA'_t, sto_im, sto_fr, sto5_t, sto3_lst, sto3_dic, sto3_obj, sto4_lst, sto4_dic, sto4_obj, putApp_ok, putIx_L, putSq_some, putA_3, putK3_some, opC_1, opApp_1, tyR_eq, tyO_l, wm_chk2, ix2_some, ix3_L, ix3_T, ix3_S, ix3_s, ixD_L, ixD_T, ixD_S, ix_n0, ix_n1, ix_n2, ix_n3, ix_n4, ix_n5, ix_n6, ix_n7, ix_n8, ix_n9, ix_n10, ix_n11, ix_n12, ix_n13, ix_n14, ix_n15, ix_n16, ixN_last, List.getElem?_cons_zero, List.set_cons_zero, List.set_cons_succ, List.getElem?_cons_succ,  kidAt_L, kidAt_T, kidAt_S, kid3_some, kidF_i, kidF_bo, kid4_ow, kid4_im, kid6_t, kid6_f, own_int, own_str, own_bl, own_non, own_fz, own_lst, own_dic, own_obj, own_tup,  argsC_nil, argsC_cons, argC1_some, argC2_some, argC_im, argC_fr, argC_bt, argC_bf, arg2_some, arg3_t, arg3_f, wipe_nil, wipe_cons, wipe1_some, woe_some, kl_T, kl_t, kl_f, kl_I, kl_1, kl_2, lc3_some, lc4_some, lc5_some, ku_T, ku_t, ku_f, wm_lcB', wlcB_ok, bl_im, bR_some, tru1_some, tru_bl, tru_int, int_im, intR_some, ev_slP, slP2_some, part_non, part_int, ch2_some, ovb, ch3_b, gN_eq, gT_eq, unT_im, unT_fr, gT2_some, gs0_eq, gs1_eq, gs2_some, retR_im, retR_fr, retR_bo, retB_im, retB_ow, ret3_t, outs_nil, outs_im, outs_ow, outs_owt, outs_imt, kt_nx, kt_ct, kt_bk, kt_rt, kt_ex, kj_nx, kj_ct, kj_bk, kj_rt, kj_ex, iAny1_some, iAny2_some, iOf1_some, iOf2_some, io_L, io_T, io_S, fe_L, fe_T, fe_S, fr_1, fr_2, raise1_some, v_add, v_addT, v_addL, v_addZ, v_addI, v_sub, v_div, v_mod, v_neg, v_lt, v_le, v_gt, v_ge, v_isB, v_isNB, v_isN, v_isNN, v_lenL, v_lenT, v_lenS, v_lenD, v_tupL, v_tupT, v_lstL, v_lstT, v_int, v_intB, v_i2, v_slL, v_slT, v_mulL, v_mulR, v_mulB, v_pow18, v_rep, v_eq, v_ne, v_eqL, v_eqT, v_neT, v_neL, List.length_cons, List.length_nil, List.replicate, List.cons_append, List.nil_append, List.map_cons, List.map_nil, List.all_nil, List.all_cons, Nat.reduceAdd, Nat.reduceSub, Nat.reduceEqDiff, Nat.reduceLT, Int.reduceNeg, Int.reduceAdd, Int.reduceSub, Int.reduceMul, Int.reduceDiv, Int.reduceMod, Int.reduceLT, Int.reduceLE, Int.reduceEq, Int.reduceToNat, Int.reduceNe, Bool.true_and, Bool.and_true, Bool.false_and, Bool.and_false, Bool.not_true, Bool.not_false, decide_true, decide_false, Option.map_some, if_true, reduceIte, eq_self, Bool.false_eq_true])
local macro_rules | `(tactic| walk_at "nal") => `(tactic| first | rfl | (simp only [nal_im, nal_ow, nal_no, nal_fS, nal_nil]))

/-! ### sums by places -/
def wsum : Int → List Int → Int
  | _, [] => 0
  | k, n :: ns => k * n + wsum (k + 1) ns
theorem wsum_app : ∀ (k : Int) (a b : List Int), wsum k (a ++ b) = wsum k a + wsum (k + a.length) b
  | k, [], b => by simp [wsum]
  | k, x :: a, b => by
    have h := wsum_app (k + 1) a b
    show k * x + wsum (k + 1) (a ++ b) = k * x + wsum (k + 1) a + wsum (k + ((a.length + 1 : Nat) : Int)) b
    rw [h, show k + 1 + (a.length : Int) = k + ((a.length + 1 : Nat) : Int) by omega]
    omega
theorem wsum_take {ns : List Int} {n : Nat} {x : Int} (h : ns[n]? = some x) : wsum 1 (ns.take (n + 1)) = wsum 1 (ns.take n) + ((n : Int) + 1) * x := by
  have hl : n < ns.length := (List.getElem?_eq_some_iff.mp h).1
  have e : ns.take (n + 1) = ns.take n ++ [x] := by rw [List.take_succ, h]; rfl
  rw [e, wsum_app, List.length_take, Nat.min_eq_left (by omega)]
  show _ + ((1 + (n : Int)) * x + 0) = _
  rw [Int.add_zero, Int.add_comm 1 (n : Int)]
theorem run_check_of {ns : List Int} (h : ns.length ≤ 1000000) : m_check_of.run [.im false (.tup (iL ns))] = .ok (.im (.int (wsum 1 ns % 1000003))) [.no] := by
  refine w_run (K := fun D => D = .ok (.im (.int (wsum 1 ns % 1000003))) [.no]) ?_
  simp only [m_check_of]
  walk_at "mev"
  refine wc_for (P := fun n ρ => ∃ o2 o3, ρ = [.im false (.tup (iL ns)), .im false (.int (wsum 1 (ns.take n))), fS o2, fS o3]) ⟨none, none, rfl⟩ ?_ ?_
  · rintro n d ρ' hd ⟨o2, o3, rfl⟩
    obtain ⟨e, h1, rfl⟩ := enum_at hd
    obtain ⟨x, h2, rfl⟩ := iL_get h1
    have hl : n < ns.length := (List.getElem?_eq_some_iff.mp h2).1
    walk_at "mev"
    rw [wsum_take h2]
    exact ⟨some (false, _), some (false, _), rfl⟩
  · rintro ρ' ⟨o2, o3, rfl⟩
    rw [enumL_len, iL_len, List.take_length]
    walk_at "mev"
theorem w_check_of {ρ : Rho} {ns : List Int} (hn : nal ρ = true) (h : ns.length ≤ 1000000) : callR m_check_of ρ [.im (.tup (iL ns))] = .ok (.im (.int (wsum 1 ns % 1000003))) ρ := by
  show call1 m_check_of (some ([.im (.tup (iL ns))], ρ)) = _
  rw [show ([.im (.tup (iL ns))] : List Rv) = [Py.tup (iL ns)].map .im from rfl, call_im (m := m_check_of) rfl hn]
  show ofD ρ (m_check_of.run [.im false (.tup (iL ns))]) = _
  rw [run_check_of h]; rfl
/-! ### what is drawn -/
def Src (d : Py) : Prop := ∃ p q : Int, d = .lst [.int p, .int q] ∧ 0 ≤ p ∧ 0 ≤ q ∧ q < 2147483647
theorem Src.mut {d : Py} (h : Src d) : d.mut = true := by obtain ⟨p, q, rfl, _⟩ := h; rfl
theorem Src.imm {d : Py} (h : Src d) : d.imm = false := by obtain ⟨p, q, rfl, _⟩ := h; rfl
theorem run_take {d : Py} {t : Int} (hd : Src d) (ht : 0 < t) (ht2 : t < 1073741824) : ∃ (r : Int) (d' : Py), 0 ≤ r ∧ r < t ∧ Src d' ∧ m__law_take.run [.ow true d, .im false (.int t)] = .ok (.im (.int r)) [.ow true d', .no] := by
  obtain ⟨p, q, rfl, hp, hq, hq2⟩ := hd
  refine w_run (K := fun D => ∃ (r : Int) (d' : Py), 0 ≤ r ∧ r < t ∧ Src d' ∧ D = .ok (.im (.int r)) [.ow true d', .no]) ?_
  simp only [m__law_take]
  walk_at "mev"
  refine wc_ifS (fun h => ?_) (fun h => ?_)
  · walk_at "mev"
    have h := of_decide_eq_true h
    exact ⟨_, _, Int.emod_nonneg _ (by omega), Int.emod_lt_of_pos _ ht, ⟨_, _, rfl, Int.ediv_nonneg hp (by omega), hq, hq2⟩, rfl⟩
  · walk_at "mev"
    exact ⟨_, _, Int.emod_nonneg _ (by omega), Int.emod_lt_of_pos _ ht, ⟨_, _, rfl, hp, Int.emod_nonneg _ (by omega), Int.emod_lt_of_pos _ (by omega)⟩, rfl⟩
theorem w_take {ρ : Rho} {i : Nat} {io : Bool} {d : Py} {t : Int} (hn : nal ρ = true) (ho : ρ[i]? = some (.ow io d)) (hd : Src d) (ht : 0 < t) (ht2 : t < 1073741824) : ∃ (r : Int) (d' : Py), 0 ≤ r ∧ r < t ∧ Src d' ∧ callR m__law_take ρ [.bo i [], .im (.int t)] = .ok (.im (.int r)) (ρ.set i (.ow io d')) := by
  obtain ⟨r, d', h1, h2, h3, h4⟩ := run_take hd ht ht2
  refine ⟨r, d', h1, h2, h3, ?_⟩
  refine (call_io (m := m__law_take) (ds := [.int t]) rfl hn ho hd.mut fun k π os => ?_).trans ?_
  · show m__law_take.run [.ow true d, .im false (.int t)] ≠ _
    rw [h4]; exact fun z => by cases z
  · show ofD1 ρ i io (m__law_take.run [.ow true d, .im false (.int t)]) = _
    rw [h4]
    show (if d'.imm = true then ER.st else _) = _
    rw [h3.imm]; rfl
theorem run_one {d : Py} {l : List Py} (hd : Src d) (hl : 0 < l.length) (hl2 : l.length < 1000000) : ∃ (x d' : Py), x ∈ l ∧ Src d' ∧ m__law_one.run [.ow true d, .im false (.lst l)] = .ok (.im x.unfz) [.ow true d', .no] := by
  refine w_run (K := fun D => ∃ (x d' : Py), x ∈ l ∧ Src d' ∧ D = .ok (.im x.unfz) [.ow true d', .no]) ?_
  simp only [m__law_one]
  walk_at "mev"
  obtain ⟨r, d', h1, h2, h3, h4⟩ := w_take (ρ := [.ow true d, .im false (.lst l)]) (i := 0) (t := (l.length : Int)) rfl rfl hd (by omega) (by omega)
  rw [h4]
  have hr : r.toNat < l.length := by omega
  walk_at "mev"
  rw [ixN_int h1 (by omega)]
  walk_at "mev"
  rw [List.getElem?_eq_getElem hr]
  walk_at "mev"
  exact ⟨_, _, List.getElem_mem hr, h3, rfl⟩
theorem w_one {ρ : Rho} {i : Nat} {io : Bool} {d : Py} {l : List Py} (hn : nal ρ = true) (ho : ρ[i]? = some (.ow io d)) (hd : Src d) (hl : 0 < l.length) (hl2 : l.length < 1000000) : ∃ (x d' : Py), x ∈ l ∧ Src d' ∧ callR m__law_one ρ [.bo i [], .im (.lst l)] = .ok (.im x.unfz) (ρ.set i (.ow io d')) := by
  obtain ⟨x, d', h1, h3, h4⟩ := run_one hd hl hl2
  refine ⟨x, d', h1, h3, ?_⟩
  refine (call_io (m := m__law_one) (ds := [.lst l]) rfl hn ho hd.mut fun k π os => ?_).trans ?_
  · show m__law_one.run [.ow true d, .im false (.lst l)] ≠ _
    rw [h4]; exact fun z => by cases z
  · show ofD1 ρ i io (m__law_one.run [.ow true d, .im false (.lst l)]) = _
    rw [h4]
    show (if d'.imm = true then ER.st else _) = _
    rw [h3.imm]; rfl
theorem run_pool {ns : List Int} {c : Int} (h0 : 0 ≤ c) (h1 : c < 64) : ∃ d, Src d ∧ m__law_pool.run [.im false (.scr (iL ns)), .im false (.int c)] = .ok (.fr d) [.no, .no] := by
  refine w_run (K := fun D => ∃ d, Src d ∧ D = .ok (.fr d) [.no, .no]) ?_
  simp only [m__law_pool]
  walk_at "mev"
  refine wc_ifS (fun h => ?_) (fun h => ?_)
  · have h := of_decide_eq_true h
    rw [iL_len] at h
    have hc : c.toNat < ns.length := by omega
    walk_at "mev"
    rw [ixN_int h0 (by rw [iL_len]; omega)]
    walk_at "mev"
    rw [at_iL (List.getElem?_eq_getElem hc)]
    walk_at "mev"
    refine ⟨_, ⟨_, _, rfl, Int.mul_nonneg ?_ ?_, Int.emod_nonneg _ (by omega), Int.emod_lt_of_pos _ (by omega)⟩, rfl⟩
    · unfold max2; split <;> omega
    · split <;> decide
  · walk_at "mev"
    refine ⟨_, ⟨_, _, rfl, Int.mul_nonneg ?_ ?_, Int.emod_nonneg _ (by omega), Int.emod_lt_of_pos _ (by omega)⟩, rfl⟩
    · unfold max2; split <;> omega
    · split <;> decide
theorem w_pool {ρ : Rho} {ns : List Int} {c : Int} (hn : nal ρ = true) (h0 : 0 ≤ c) (h1 : c < 64) : ∃ d, Src d ∧ callR m__law_pool ρ [.im (.scr (iL ns)), .im (.int c)] = .ok (.fr d) ρ := by
  obtain ⟨d, h2, h3⟩ := run_pool (ns := ns) h0 h1
  refine ⟨d, h2, ?_⟩
  refine (call_im (m := m__law_pool) (ds := [.scr (iL ns), .int c]) rfl hn).trans ?_
  show ofD ρ (m__law_pool.run [.im false (.scr (iL ns)), .im false (.int c)]) = _
  rw [h3]; rfl
theorem run_name_of1 : m_name_of.run [.im false (.int 1)] = .ok (.im (.str "a")) [.no] := by rfl
theorem run_name_of2 : m_name_of.run [.im false (.int 2)] = .ok (.im (.str "b")) [.no] := by rfl
theorem idx_a : Txt.index0 "abcdefghijklmnopqrstuvwxyz" (⟨#[97]⟩ : Str) = some 0 := by decide +kernel
theorem idx_b : Txt.index0 "abcdefghijklmnopqrstuvwxyz" (⟨#[98]⟩ : Str) = some 1 := by decide +kernel
theorem it_a : itemsOf (.str "a") = some [.str ⟨#[97]⟩] := by rfl
theorem it_b : itemsOf (.str "b") = some [.str ⟨#[98]⟩] := by rfl
def idx2 : Option Nat → OV
  | some k => .im (.int (k : Nat))
  | none => .st
theorem idx_eq {a b : Str} : fIndex a (.str b) = idx2 (Txt.index0 a b) := by
  show (match Txt.index0 a b with | some k => OV.im (.int (k : Nat)) | none => .st) = _
  cases Txt.index0 a b <;> rfl
theorem f_idxa : fIndex "abcdefghijklmnopqrstuvwxyz" (.str ⟨#[97]⟩) = .im (.int 0) := by rw [idx_eq, idx_a]; rfl
theorem f_idxb : fIndex "abcdefghijklmnopqrstuvwxyz" (.str ⟨#[98]⟩) = .im (.int 1) := by rw [idx_eq, idx_b]; rfl
theorem run_name_number1 : m_name_number.run [.im false (.str "a")] = .ok (.im (.int 1)) [.no] := by
  refine w_run (K := fun D => D = .ok (.im (.int 1)) [.no]) ?_
  simp only [m_name_number]
  walk_at "mev"
  rw [it_a]
  walk_at "mev"
  refine wf_go ?_
  walk_at "mev"
  rw [f_idxa]
  walk_at "mev"
theorem run_name_number2 : m_name_number.run [.im false (.str "b")] = .ok (.im (.int 2)) [.no] := by
  refine w_run (K := fun D => D = .ok (.im (.int 2)) [.no]) ?_
  simp only [m_name_number]
  walk_at "mev"
  rw [it_b]
  walk_at "mev"
  refine wf_go ?_
  walk_at "mev"
  rw [f_idxb]
  walk_at "mev"
/-! ### the numbers -/
def flat : Nat → List Int
  | 0 => []
  | n + 1 => flat n ++ [41 + (n : Int), 1 + (n : Int)]
def pr (k : Nat) : Py := .tup [.int (41 + (k : Int)), .int (1 + (k : Int))]
def prs (n : Nat) : List Py := (List.range n).map pr
theorem prs_succ (n : Nat) : prs (n + 1) = prs n ++ [pr n] := by unfold prs; rw [List.range_succ, List.map_append]; rfl
theorem prs_len (n : Nat) : (prs n).length = n := by unfold prs; rw [List.length_map, List.length_range]
theorem prs_get {n k : Nat} (h : k < n) : (prs n)[k]? = some (pr k) := by unfold prs; rw [List.getElem?_map, List.getElem?_range h]; rfl
theorem prs_imm (n : Nat) : Py.immL (prs n) = true := immL_all fun d hd => by
  obtain ⟨k, _, rfl⟩ := List.mem_map.mp hd; rfl
theorem flat_len : ∀ n : Nat, (flat n).length = 2 * n
  | 0 => rfl
  | n + 1 => by show (flat n ++ _).length = _; rw [List.length_append, flat_len n]; rfl
theorem flat_get : ∀ {n k : Nat}, k < n → (flat n)[2 * k]? = some (41 + (k : Int)) ∧ (flat n)[2 * k + 1]? = some (1 + (k : Int))
  | 0, _, h => by omega
  | n + 1, k, h => by
    show (flat n ++ _)[2 * k]? = _ ∧ (flat n ++ _)[2 * k + 1]? = _
    by_cases e : k = n
    · subst e
      rw [List.getElem?_append_right (by rw [flat_len]; omega), List.getElem?_append_right (by rw [flat_len]; omega), flat_len]
      rw [show 2 * k - 2 * k = 0 by omega, show 2 * k + 1 - 2 * k = 1 by omega]
      exact ⟨rfl, rfl⟩
    · rw [List.getElem?_append_left (by rw [flat_len]; omega), List.getElem?_append_left (by rw [flat_len]; omega)]
      exact flat_get (by omega)
/-- the numbers of a root ahead of its dead pairs -/
def rt10 (i : Int) (d : Nat) : List Int := [i, i, 0, 0, 0, 0, 0, 41 + i, 5, (d : Int)]
def pre1 : List Int := [2, 1, 1, 1, 0, 1]
def pre2 : List Int := [3, 2, 2, 1, 0, 1, 2, 0, 2]
def nums : Nat → Nat → List Int
  | 0, _ => [7, 0, 0]
  | 1, d => pre1 ++ (rt10 1 d ++ flat d)
  | _, d => pre2 ++ (rt10 1 d ++ (flat d ++ rt10 2 0))
def rootD (i : Int) (d : Nat) : Py := .obj 1 ["ident", "volume", "snap", "prev", "time", "mark", "top", "dead"] [.int i, .int i, .non, .int 0, .int 0, .tup [.int 0, .int 0], .tup [.int (41 + i), .int 5], .tup (prs d)]
def volD (i : Int) (z : Str) : Py := .obj 2 ["name", "quota", "head"] [.str z, .int 0, .int i]
def bookD : Nat → Nat → Py
  | 0, _ => .obj 3 ["next_id", "volumes", "roots"] [.int 7, .dic false [] [], .dic false [] []]
  | 1, d => .obj 3 ["next_id", "volumes", "roots"] [.int 2, .dic false [.inl 1] [volD 1 "a"], .dic false [.inl 1] [rootD 1 d]]
  | _, d => .obj 3 ["next_id", "volumes", "roots"] [.int 3, .dic false [.inl 1, .inl 2] [volD 1 "a", volD 2 "b"], .dic false [.inl 1, .inl 2] [rootD 1 d, rootD 2 0]]
/-! ### slices -/
theorem cut_nat {l : List Py} {m n : Nat} : cutA l (some (m : Int)) (some (n : Int)) = (l.take n).drop m := by
  unfold cutA
  show (l.drop (if (m : Int) < 0 then ((m : Int) + l.length).toNat else min (m : Int).toNat l.length)).take ((if (n : Int) < 0 then ((n : Int) + l.length).toNat else min (n : Int).toNat l.length) - (if (m : Int) < 0 then ((m : Int) + l.length).toNat else min (m : Int).toNat l.length)) = _
  rw [if_neg (by omega), if_neg (by omega), Int.toNat_natCast, Int.toNat_natCast]
  by_cases hm : m ≤ l.length
  · rw [Nat.min_eq_left hm]
    by_cases hn : n ≤ l.length
    · rw [Nat.min_eq_left hn, List.drop_take]
    · rw [Nat.min_eq_right (by omega), List.drop_take, List.take_of_length_le (l := l.drop m) (by rw [List.length_drop]; omega), List.take_of_length_le (by rw [List.length_drop]; omega)]
  · rw [Nat.min_eq_right (show l.length ≤ m by omega), List.drop_eq_nil_of_le (Nat.le_refl _), List.drop_eq_nil_of_le (as := l.take n) (by rw [List.length_take]; omega), List.take_nil]
/-- a part of a row of numbers -/
theorem cut_mid {a b c : List Int} {m n : Int} (hm : m = a.length) (hn : n = m + b.length) : cutA (iL (a ++ (b ++ c))) (some m) (some n) = iL b := by
  have e : n = ((a.length + b.length : Nat) : Int) := by rw [hn, hm]; omega
  rw [hm, e, cut_nat, ← List.map_take, ← List.map_drop]
  congr 1
  rw [List.take_append, List.take_of_length_le (by omega), List.drop_append, List.drop_eq_nil_of_le (Nat.le_refl _)]
  rw [show a.length + b.length - a.length = b.length by omega, Nat.sub_self, List.drop_zero, List.nil_append]
  exact List.take_left ..
/-! ### objects made -/
theorem run_Root {a b c d e f g h : Py} (hf : f.imm = true) (hg : g.imm = true) (hh : h.imm = true) (ha : a.imm = true) (hb : b.imm = true) (hc : c.imm = true) (hd : d.imm = true) (he : e.imm = true) : m_Root___init__.run [.ow true (.obj 1 [] []), .im false a, .im false b, .im false c, .im false d, .im false e, .im false f, .im false g, .im false h] = .ok (.im .non) [.ow true (.obj 1 ["ident", "volume", "snap", "prev", "time", "mark", "top", "dead"] [a, b, c, d, e, f, g, h]), .no, .no, .no, .no, .no, .no, .no, .no] := by
  refine w_run (K := fun D => D = .ok (.im .non) [.ow true (.obj 1 ["ident", "volume", "snap", "prev", "time", "mark", "top", "dead"] [a, b, c, d, e, f, g, h]), .no, .no, .no, .no, .no, .no, .no, .no]) ?_
  simp only [m_Root___init__]
  walk_at "mev"
  simp only [wrap1_ok ha, wrap1_ok hb, wrap1_ok hc, wrap1_ok hd, wrap1_ok he, wrap1_ok hf, wrap1_ok hg, wrap1_ok hh]
theorem run_Volume {a b c : Py} (ha : a.imm = true) (hb : b.imm = true) (hc : c.imm = true) : m_Volume___init__.run [.ow true (.obj 2 [] []), .im false a, .im false b, .im false c] = .ok (.im .non) [.ow true (.obj 2 ["name", "quota", "head"] [a, b, c]), .no, .no, .no] := by
  refine w_run (K := fun D => D = .ok (.im .non) [.ow true (.obj 2 ["name", "quota", "head"] [a, b, c]), .no, .no, .no]) ?_
  simp only [m_Volume___init__]
  walk_at "mev"
  simp only [wrap1_ok ha, wrap1_ok hb, wrap1_ok hc]
theorem run_Book : m_Book___init__.run [.ow true (.obj 3 [] [])] = .ok (.im .non) [.ow true (.obj 3 ["next_id", "volumes", "roots"] [.int 1, .dic false [] [], .dic false [] []])] := by
  refine w_run (K := fun D => D = .ok (.im .non) [.ow true (.obj 3 ["next_id", "volumes", "roots"] [.int 1, .dic false [] [], .dic false [] []])]) ?_
  simp only [m_Book___init__]
  walk_at "mev"
theorem w_Root {ρ : Rho} {i : Nat} {io : Bool} {a b c d e f g h : Py} (hn : nal ρ = true) (ho : ρ[i]? = some (.ow io (.obj 1 [] []))) (hf : f.imm = true) (hg : g.imm = true) (hh : h.imm = true) (ha : a.imm = true) (hb : b.imm = true) (hc : c.imm = true) (hd : d.imm = true) (he : e.imm = true) : callR m_Root___init__ ρ [.bo i [], .im a, .im b, .im c, .im d, .im e, .im f, .im g, .im h] = .ok (.im .non) (ρ.set i (.ow io (.obj 1 ["ident", "volume", "snap", "prev", "time", "mark", "top", "dead"] [a, b, c, d, e, f, g, h]))) :=
  ci (ds := [a, b, c, d, e, f, g, h]) rfl (run_Root hf hg hh ha hb hc hd he) rfl hn ho rfl rfl
theorem w_Volume {ρ : Rho} {i : Nat} {io : Bool} {a b c : Py} (hn : nal ρ = true) (ho : ρ[i]? = some (.ow io (.obj 2 [] []))) (ha : a.imm = true) (hb : b.imm = true) (hc : c.imm = true) : callR m_Volume___init__ ρ [.bo i [], .im a, .im b, .im c] = .ok (.im .non) (ρ.set i (.ow io (.obj 2 ["name", "quota", "head"] [a, b, c]))) :=
  ci (ds := [a, b, c]) rfl (run_Volume ha hb hc) rfl hn ho rfl rfl
theorem w_Book {ρ : Rho} {i : Nat} {io : Bool} (hn : nal ρ = true) (ho : ρ[i]? = some (.ow io (.obj 3 [] []))) : callR m_Book___init__ ρ [.bo i []] = .ok (.im .non) (ρ.set i (.ow io (.obj 3 ["next_id", "volumes", "roots"] [.int 1, .dic false [] [], .dic false [] []]))) :=
  ci (ds := []) rfl run_Book rfl hn ho rfl rfl
/-! ### ranges with a step -/
theorem rsz {a b c : Int} (hc : 0 < c) : Builtin.Range.rangeSize a b c = if a < b then (b - a - 1) / c + 1 else 0 := by
  unfold Builtin.Range.rangeSize
  rw [if_pos (by omega)]
theorem fr_3 {a b c : Int} (hc : 0 < c) (hc2 : c < 1000) (h1 : 0 ≤ a) (h2 : a < 1000000) (h3 : 0 ≤ b) (h4 : b < 1000000) : fRange3 [.int a, .int b, .int c] = some (rangeC a c (if a < b then (b - a - 1) / c + 1 else 0).toNat) := by
  have e := rsz (a := a) (b := b) hc
  have sm : Builtin.Range.small a b c = true := by
    unfold Builtin.Range.small
    rw [e]
    have q : a < b → 0 ≤ (b - a - 1) / c ∧ (b - a - 1) / c ≤ b - a - 1 := fun h => ⟨Int.ediv_nonneg (by omega) (by omega), Int.ediv_le_self _ (by omega)⟩
    simp only [Builtin.Range.rangeFitsLong, Bool.and_eq_true, Bool.or_eq_true, decide_eq_true_eq, beq_iff_eq, show c > 0 from hc, if_true]
    by_cases h : a < b
    · have := q h
      rw [if_pos h]
      omega
    · rw [if_neg h]
      omega
  show (if c ≠ 0 ∧ c.natAbs < 1073741824 ∧ Builtin.Range.small a b c = true then some (rangeC a c (Builtin.Range.rangeSize a b c).toNat) else none) = _
  rw [if_pos ⟨by omega, by omega, sm⟩, e]
/-! ### a root, read -/
theorem run_root {N : List Int} {n d : Nat} {i : Int} (hn : n < 10000) (hd : d < 1000) (s1 : cutA (iL N) (some (n : Int)) (some ((n : Int) + 5)) = iL [i, i, 0, 0, 0]) (s2 : cutA (iL N) (some ((n : Int) + 5)) (some ((n : Int) + 7)) = iL [0, 0]) (s3 : cutA (iL N) (some ((n : Int) + 7)) (some ((n : Int) + 9)) = iL [41 + i, 5])
    (g9 : N[n + 9]? = some (d : Int)) (gd : ∀ k, k < d → N[n + 10 + 2 * k]? = some (41 + (k : Int)) ∧ N[n + 11 + 2 * k]? = some (1 + (k : Int))) : m_root_of.run [.im false (.tup (iL N)), .im false (.int n)] = .ok (.fr (.tup [rootD i d, .int ((n : Int) + 10 + 2 * (d : Int))])) [.no, .no] := by
  refine w_run (K := fun D => D = .ok (.fr (.tup [rootD i d, .int ((n : Int) + 10 + 2 * (d : Int))])) [.no, .no]) ?_
  simp only [m_root_of]
  walk_at "mev"
  rw [s1]
  walk_at "mev"
  rw [s2]
  walk_at "mev"
  rw [s3]
  walk_at "mev"
  have l9 : n + 9 < N.length := (List.getElem?_eq_some_iff.mp g9).1
  rw [show (n : Int) + 9 = ((n + 9 : Nat) : Int) from rfl, ixN_nat (by rw [iL_len]; exact l9)]
  walk_at "mev"
  rw [at_iL g9]
  walk_at "mev"
  rw [fr_3 (by omega) (by omega) (by omega) (by omega) (by omega) (by omega)]
  walk_at "mev"
  have hc : (if (n : Int) + 10 < (n : Int) + 10 + 2 * (d : Int) then ((n : Int) + 10 + 2 * (d : Int) - ((n : Int) + 10) - 1) / 2 + 1 else 0).toNat = d := by split <;> omega
  rw [hc]
  refine wc_lca prs rfl ?_ ?_
  · intro k e he
    obtain ⟨hk, rfl⟩ := rangeC_get _ _ _ _ _ he
    obtain ⟨g1, g2⟩ := gd k hk
    have l1 : n + 11 + 2 * k < N.length := (List.getElem?_eq_some_iff.mp g2).1
    walk_at "mev"
    rw [show (n : Int) + 10 + (k : Int) * 2 = ((n + 10 + 2 * k : Nat) : Int) by omega, ixN_nat (by rw [iL_len]; omega)]
    walk_at "mev"
    rw [at_iL g1]
    walk_at "mev"
    rw [show ((n + 10 + 2 * k : Nat) : Int) + 1 = ((n + 11 + 2 * k : Nat) : Int) by omega, ixN_nat (by rw [iL_len]; omega)]
    walk_at "mev"
    rw [at_iL g2]
    have hp : (prs k).length < 16777216 := by rw [prs_len]; omega
    walk_at "mev"
    rw [prs_succ]
    rfl
  · walk_at "mev"
    rw [rangeC_len, pl_imm (prs_imm d), w_Root (h := .tup (prs d)) rfl rfl rfl rfl (prs_imm d) rfl rfl rfl rfl rfl]
    walk_at "mev"
    rfl
theorem w_root {ρ : Rho} {N : List Int} {n d : Nat} {i : Int} (hr : nal ρ = true) (hn : n < 10000) (hd : d < 1000) (s1 : cutA (iL N) (some (n : Int)) (some ((n : Int) + 5)) = iL [i, i, 0, 0, 0]) (s2 : cutA (iL N) (some ((n : Int) + 5)) (some ((n : Int) + 7)) = iL [0, 0]) (s3 : cutA (iL N) (some ((n : Int) + 7)) (some ((n : Int) + 9)) = iL [41 + i, 5])
    (g9 : N[n + 9]? = some (d : Int)) (gd : ∀ k, k < d → N[n + 10 + 2 * k]? = some (41 + (k : Int)) ∧ N[n + 11 + 2 * k]? = some (1 + (k : Int))) : callR m_root_of ρ [.im (.tup (iL N)), .im (.int n)] = .ok (.fr (.tup [rootD i d, .int ((n : Int) + 10 + 2 * (d : Int))])) ρ :=
  cf2 rfl (run_root hn hd s1 s2 s3 g9 gd) hr
theorem rootD_eq {i : Int} {d : Nat} : rootD i d = .obj 1 ["ident", "volume", "snap", "prev", "time", "mark", "top", "dead"] [.int i, .int i, .non, .int 0, .int 0, .tup [.int 0, .int 0], .tup [.int (41 + i), .int 5], .tup (prs d)] := rfl
theorem rootD_pl {i : Int} {d : Nat} : (rootD i d).plain = rootD i d := by
  refine plain_pl ?_
  show (true && (true && (true && (true && (true && (true && (true && (Py.plL (prs d) && true)))))))) = true
  rw [immL_plL (prs_imm d)]; rfl
theorem rootD_u {i : Int} {d : Nat} : (rootD i d).plain.unfz = rootD i d := by rw [rootD_pl]; rfl
theorem rg_0 {lo : Int} : rangeL lo 0 = [] := rfl
theorem rg_S {lo : Int} {n : Nat} : rangeL lo (n + 1) = .int lo :: rangeL (lo + 1) n := rfl
theorem run_book0 {d : Nat} : m_book_of.run [.im false (.tup (iL [7, 0, 0]))] = .ok (.fr (bookD 0 d)) [.no] := by
  refine w_run (K := fun D => D = .ok (.fr (bookD 0 d)) [.no]) ?_
  simp only [m_book_of]
  walk_at "mev"
  rw [w_Book rfl rfl]
  walk_at "mev"
  rw [rg_0]
  walk_at "mev"
  rw [rg_0]
  walk_at "mev"
  rfl
theorem run_book1 {R : List Int} {d : Nat} (hd : d < 1000) (hR : R.length < 10000) (v1 : cutA (iL (2 :: 1 :: 1 :: R)) (some 3) (some 6) = iL [1, 0, 1]) (s1 : cutA (iL (2 :: 1 :: 1 :: R)) (some (6 : Nat)) (some ((6 : Nat) + 5)) = iL [1, 1, 0, 0, 0]) (s2 : cutA (iL (2 :: 1 :: 1 :: R)) (some ((6 : Nat) + 5)) (some ((6 : Nat) + 7)) = iL [0, 0]) (s3 : cutA (iL (2 :: 1 :: 1 :: R)) (some ((6 : Nat) + 7)) (some ((6 : Nat) + 9)) = iL [42, 5])
    (g9 : (2 :: 1 :: 1 :: R)[6 + 9]? = some (d : Int)) (gd : ∀ k, k < d → (2 :: 1 :: 1 :: R)[6 + 10 + 2 * k]? = some (41 + (k : Int)) ∧ (2 :: 1 :: 1 :: R)[6 + 11 + 2 * k]? = some (1 + (k : Int))) : ∃ b : Py, b.plain = bookD 1 d ∧ m_book_of.run [.im false (.tup (iL (2 :: 1 :: 1 :: R)))] = .ok (.fr b) [.no] := by
  refine w_run (K := fun D => ∃ b : Py, b.plain = bookD 1 d ∧ D = .ok (.fr b) [.no]) ?_
  simp only [m_book_of]
  have W : ∀ ρ : Rho, nal ρ = true → callR m_root_of ρ [.im (.tup (iL (2 :: 1 :: 1 :: R))), .im (.int 6)] = .ok (.fr (.tup [rootD 1 d, .int (6 + 10 + 2 * (d : Int))])) ρ := fun ρ hr => w_root (n := 6) hr (by decide) hd s1 s2 s3 g9 gd
  simp only [iL, List.map_cons] at v1 W
  walk_at "mev"
  rw [w_Book rfl rfl]
  walk_at "mev"
  rw [show rangeL 0 1 = [.int 0] from rfl]
  refine wf_go ?_
  walk_at "mev"
  rw [v1]
  walk_at "mev"
  rw [cp1 rfl run_name_of1 rfl]
  walk_at "mev"
  rw [w_Volume rfl rfl rfl rfl rfl]
  walk_at "mev"
  rw [show rangeL 0 1 = [.int 0] from rfl]
  refine wf_go ?_
  walk_at "mev"
  rw [W _ rfl]
  walk_at "mev"
  rw [rootD_u, rootD_eq]
  walk_at "mev"
  refine ⟨_, ?_, rfl⟩
  simp only [plain_obj, plain_dic, List.map_cons, List.map_nil, plain_int, plain_str, plain_wrap1, plain_non, plain_tup]
  rw [pl_imm (prs_imm d)]
  rfl
theorem run_book2 {R : List Int} {d : Nat} (hd : d < 1000) (hR : R.length < 10000) (v1 : cutA (iL (3 :: 2 :: 2 :: R)) (some 3) (some 6) = iL [1, 0, 1]) (v2 : cutA (iL (3 :: 2 :: 2 :: R)) (some 6) (some 9) = iL [2, 0, 2])
    (W1 : ∀ ρ : Rho, nal ρ = true → callR m_root_of ρ [.im (.tup (iL (3 :: 2 :: 2 :: R))), .im (.int 9)] = .ok (.fr (.tup [rootD 1 d, .int (9 + 10 + 2 * (d : Int))])) ρ)
    (W2 : ∀ ρ : Rho, nal ρ = true → callR m_root_of ρ [.im (.tup (iL (3 :: 2 :: 2 :: R))), .im (.int (19 + 2 * (d : Int)))] = .ok (.fr (.tup [rootD 2 0, .int (19 + 2 * (d : Int) + 10 + 0)])) ρ) :
    ∃ b : Py, b.plain = bookD 2 d ∧ m_book_of.run [.im false (.tup (iL (3 :: 2 :: 2 :: R)))] = .ok (.fr b) [.no] := by
  refine w_run (K := fun D => ∃ b : Py, b.plain = bookD 2 d ∧ D = .ok (.fr b) [.no]) ?_
  simp only [m_book_of]
  simp only [iL, List.map_cons] at v1 v2 W1 W2
  walk_at "mev"
  rw [w_Book rfl rfl]
  walk_at "mev"
  rw [show rangeL 0 2 = [.int 0, .int 1] from rfl]
  refine wf_go ?_
  walk_at "mev"
  rw [v1]
  walk_at "mev"
  rw [cp1 rfl run_name_of1 rfl]
  walk_at "mev"
  rw [w_Volume rfl rfl rfl rfl rfl]
  walk_at "mev"
  refine wf_go ?_
  walk_at "mev"
  rw [v2]
  walk_at "mev"
  rw [cp1 rfl run_name_of2 rfl]
  walk_at "mev"
  rw [w_Volume rfl rfl rfl rfl rfl]
  walk_at "mev"
  rw [show rangeL 0 2 = [.int 0, .int 1] from rfl]
  refine wf_go ?_
  walk_at "mev"
  rw [W1 _ rfl]
  walk_at "mev"
  rw [rootD_u, rootD_eq]
  walk_at "mev"
  refine wf_go ?_
  walk_at "mev"
  rw [W2 _ rfl]
  walk_at "mev"
  rw [rootD_u, rootD_eq]
  walk_at "mev"
  refine ⟨_, ?_, rfl⟩
  simp only [plain_obj, plain_dic, List.map_cons, List.map_nil, plain_int, plain_str, plain_wrap1, plain_non, plain_tup]
  rw [pl_imm (prs_imm d)]
  rfl
/-! ### the numbers of a root, of a book -/
theorem flat_succ (k : Nat) : flat (k + 1) = flat k ++ [41 + (k : Int), 1 + (k : Int)] := rfl
theorem run_rootn {i : Int} {d : Nat} (hd : d < 1000) : m_root_numbers.run [.im false (rootD i d)] = .ok (.fr (.lst (iL (rt10 i d ++ flat d)))) [.no] := by
  refine w_run (K := fun D => D = .ok (.fr (.lst (iL (rt10 i d ++ flat d)))) [.no]) ?_
  simp only [m_root_numbers]
  rw [rootD_eq]
  walk_at "mev"
  rw [prs_len]
  refine wc_for (P := fun k ρ' => ∃ o3 o4, ρ' = [.im false (rootD i d), .im false (.int 0), .ow false (.lst (iL (rt10 i d ++ flat k))), fS o3, fS o4]) ⟨none, none, rfl⟩ ?_ ?_
  · rintro k e ρ' he ⟨o3, o4, rfl⟩
    have hk : k < d := by have := (List.getElem?_eq_some_iff.mp he).1; rwa [prs_len] at this
    rw [prs_get hk] at he
    have he := Option.some.inj he
    subst he
    rw [show pr k = Py.tup [.int (41 + (k : Int)), .int (1 + (k : Int))] from rfl]
    have hl : (flat k).length ≤ 2000 := by rw [flat_len]; omega
    have hl2 : (rt10 i d).length = 10 := rfl
    walk_at "mev"
    exact ⟨some (false, _), some (false, _), by rw [flat_succ, ← List.append_assoc, show iL (rt10 i d ++ flat k ++ [41 + (k : Int), 1 + (k : Int)]) = iL (rt10 i d ++ flat k) ++ [.int (41 + (k : Int)), .int (1 + (k : Int))] from iL_app.symm]; rfl⟩
  · rintro ρ' ⟨o3, o4, rfl⟩
    rw [prs_len]
    walk_at "mev"
theorem w_rootn {ρ : Rho} {i : Int} {d : Nat} (hn : nal ρ = true) (hd : d < 1000) : callR m_root_numbers ρ [.im (rootD i d)] = .ok (.fr (.lst (iL (rt10 i d ++ flat d)))) ρ := cf1 rfl (run_rootn hd) hn
theorem srt0 {lk : Bool} {vs : List Py} : pySortA (.dic lk [] vs) = .fr (.lst []) := rfl
theorem srt1 {lk : Bool} {vs : List Py} : pySortA (.dic lk [.inl 1] vs) = .fr (.lst [.int 1]) := rfl
theorem srt2 {lk : Bool} {vs : List Py} : pySortA (.dic lk [.inl 1, .inl 2] vs) = .fr (.lst [.int 1, .int 2]) := rfl
theorem run_bookn0 {d : Nat} : m_book_numbers.run [.im false (bookD 0 d)] = .ok (.im (.tup (iL (nums 0 d)))) [.no] := by
  refine w_run (K := fun D => D = .ok (.im (.tup (iL (nums 0 d)))) [.no]) ?_
  simp only [m_book_numbers]
  rw [show bookD 0 d = .obj 3 ["next_id", "volumes", "roots"] [.int 7, .dic false [] [], .dic false [] []] from rfl]
  walk_at "mev"
  rw [srt0]
  walk_at "mev"
  rw [srt0]
  walk_at "mev"
  rfl
theorem run_bookn1 {d : Nat} (hd : d < 1000) : m_book_numbers.run [.im false (bookD 1 d)] = .ok (.im (.tup (iL (nums 1 d)))) [.no] := by
  refine w_run (K := fun D => D = .ok (.im (.tup (iL (nums 1 d)))) [.no]) ?_
  simp only [m_book_numbers]
  rw [show bookD 1 d = .obj 3 ["next_id", "volumes", "roots"] [.int 2, .dic false [.inl 1] [volD 1 "a"], .dic false [.inl 1] [rootD 1 d]] from rfl, show volD 1 "a" = .obj 2 ["name", "quota", "head"] [.str "a", .int 0, .int 1] from rfl]
  have hl : (flat d).length ≤ 2000 := by rw [flat_len]; omega
  have hl2 : (rt10 1 d).length = 10 := rfl
  have ru : (rootD 1 d).unfz = rootD 1 d := rfl
  walk_at "mev"
  rw [srt1]
  walk_at "mev"
  refine wf_go ?_
  walk_at "mev"
  rw [cp1 rfl run_name_number1 rfl]
  walk_at "mev"
  rw [srt1]
  walk_at "mev"
  refine wf_go ?_
  walk_at "mev"
  rw [ru, w_rootn rfl hd]
  walk_at "mev"
  rfl
theorem run_bookn2 {d : Nat} (hd : d < 1000) : m_book_numbers.run [.im false (bookD 2 d)] = .ok (.im (.tup (iL (nums 2 d)))) [.no] := by
  refine w_run (K := fun D => D = .ok (.im (.tup (iL (nums 2 d)))) [.no]) ?_
  simp only [m_book_numbers]
  rw [show bookD 2 d = .obj 3 ["next_id", "volumes", "roots"] [.int 3, .dic false [.inl 1, .inl 2] [volD 1 "a", volD 2 "b"], .dic false [.inl 1, .inl 2] [rootD 1 d, rootD 2 0]] from rfl, show volD 1 "a" = .obj 2 ["name", "quota", "head"] [.str "a", .int 0, .int 1] from rfl, show volD 2 "b" = .obj 2 ["name", "quota", "head"] [.str "b", .int 0, .int 2] from rfl]
  have hl : (flat d).length ≤ 2000 := by rw [flat_len]; omega
  have hl2 : (rt10 1 d).length = 10 := rfl
  have hl3 : (flat 0).length = 0 := rfl
  have hl4 : (rt10 2 0).length = 10 := rfl
  have ru : (rootD 1 d).unfz = rootD 1 d := rfl
  have ru2 : (rootD 2 0).unfz = rootD 2 0 := rfl
  walk_at "mev"
  rw [srt2]
  walk_at "mev"
  refine wf_go ?_
  walk_at "mev"
  rw [cp1 rfl run_name_number1 rfl]
  walk_at "mev"
  refine wf_go ?_
  walk_at "mev"
  rw [cp1 rfl run_name_number2 rfl]
  walk_at "mev"
  rw [srt2]
  walk_at "mev"
  refine wf_go ?_
  walk_at "mev"
  rw [ru, w_rootn rfl hd]
  walk_at "mev"
  refine wf_go ?_
  walk_at "mev"
  rw [ru2, w_rootn rfl (by decide)]
  walk_at "mev"
  have e : nums 2 d = 3 :: 2 :: 2 :: 1 :: 0 :: 1 :: 2 :: 0 :: 2 :: ((rt10 1 d ++ flat d) ++ (rt10 2 0 ++ flat 0)) := by
    show pre2 ++ (rt10 1 d ++ (flat d ++ rt10 2 0)) = _
    rw [List.append_assoc, show flat 0 = [] from rfl, List.append_nil]; rfl
  rw [e]
  simp only [List.map_cons, List.map_append]
  rfl
/-- how many numbers -/
def cnt : Nat → Nat → Nat
  | 0, _ => 3
  | 1, d => 16 + 2 * d
  | _, d => 29 + 2 * d
theorem nums_len : ∀ h d : Nat, (nums h d).length = cnt h d
  | 0, _ => rfl
  | 1, d => by show (pre1 ++ (rt10 1 d ++ flat d)).length = _; rw [List.length_append, List.length_append, flat_len]; show 6 + (10 + 2 * d) = 16 + 2 * d; omega
  | n + 2, d => by show (pre2 ++ (rt10 1 d ++ (flat d ++ rt10 2 0))).length = _; rw [List.length_append, List.length_append, List.length_append, flat_len]; show 9 + (10 + (2 * d + 10)) = 29 + 2 * d; omega
theorem w_bookn {ρ : Rho} {h d : Nat} (hh : h < 3) (hd : d < 1000) (hn : nal ρ = true) : callR m_book_numbers ρ [.im (bookD h d)] = .ok (.im (.tup (iL (nums h d)))) ρ := by
  match h, hh with
  | 0, _ => exact cp1 rfl run_bookn0 hn
  | 1, _ => exact cp1 rfl (run_bookn1 hd) hn
  | 2, _ => exact cp1 rfl (run_bookn2 hd) hn
theorem w_bookof' {h d : Nat} (hh : h < 3) (hd : d < 1000) : ∃ b : Py, b.plain = bookD h d ∧ ∀ ρ : Rho, nal ρ = true → callR m_book_of ρ [.im (.tup (iL (nums h d)))] = .ok (.fr b) ρ := by
  match h, hh with
  | 0, _ => exact ⟨bookD 0 d, rfl, fun _ hn => cf1 rfl run_book0 hn⟩
  | 1, _ =>
    have e : nums 1 d = [2, 1, 1] ++ ([1, 0, 1] ++ (rt10 1 d ++ flat d)) := rfl
    have e2 : nums 1 d = pre1 ++ ([1, 1, 0, 0, 0] ++ ([0, 0, 42, 5, (d : Int)] ++ flat d)) := rfl
    have e3 : nums 1 d = (pre1 ++ [1, 1, 0, 0, 0]) ++ ([0, 0] ++ ([42, 5, (d : Int)] ++ flat d)) := rfl
    have e4 : nums 1 d = (pre1 ++ [1, 1, 0, 0, 0, 0, 0]) ++ ([42, 5] ++ ([(d : Int)] ++ flat d)) := rfl
    have e5 : nums 1 d = (pre1 ++ rt10 1 d) ++ flat d := by show pre1 ++ (rt10 1 d ++ flat d) = _; rw [List.append_assoc]
    have g := run_book1 (R := nums 1 d |>.drop 3) (d := d) hd (by rw [List.length_drop, nums_len]; show 16 + 2 * d - 3 < _; omega)
      (by show cutA (iL (nums 1 d)) _ _ = _; rw [e]; exact cut_mid rfl rfl)
      (by show cutA (iL (nums 1 d)) _ _ = _; rw [e2]; exact cut_mid rfl rfl)
      (by show cutA (iL (nums 1 d)) _ _ = _; rw [e3]; exact cut_mid rfl rfl)
      (by show cutA (iL (nums 1 d)) _ _ = _; rw [e4]; exact cut_mid rfl rfl)
      rfl
      (fun k hk => by
        show (nums 1 d)[6 + 10 + 2 * k]? = _ ∧ (nums 1 d)[6 + 11 + 2 * k]? = _
        have hp : (pre1 ++ rt10 1 d).length = 16 := rfl
        rw [e5, List.getElem?_append_right (by rw [hp]; omega), List.getElem?_append_right (by rw [hp]; omega), hp]
        rw [show 6 + 10 + 2 * k - 16 = 2 * k by omega, show 6 + 11 + 2 * k - 16 = 2 * k + 1 by omega]
        exact flat_get hk)
    obtain ⟨b, hb, hr⟩ := g
    exact ⟨b, hb, fun _ hn => cf1 rfl hr hn⟩
  | 2, _ =>
    have e : nums 2 d = [3, 2, 2] ++ ([1, 0, 1] ++ ([2, 0, 2] ++ (rt10 1 d ++ (flat d ++ rt10 2 0)))) := rfl
    have f : nums 2 d = [3, 2, 2, 1, 0, 1] ++ ([2, 0, 2] ++ (rt10 1 d ++ (flat d ++ rt10 2 0))) := rfl
    have e2 : nums 2 d = pre2 ++ ([1, 1, 0, 0, 0] ++ ([0, 0, 42, 5, (d : Int)] ++ (flat d ++ rt10 2 0))) := rfl
    have e3 : nums 2 d = (pre2 ++ [1, 1, 0, 0, 0]) ++ ([0, 0] ++ ([42, 5, (d : Int)] ++ (flat d ++ rt10 2 0))) := rfl
    have e4 : nums 2 d = (pre2 ++ [1, 1, 0, 0, 0, 0, 0]) ++ ([42, 5] ++ ([(d : Int)] ++ (flat d ++ rt10 2 0))) := rfl
    have e5 : nums 2 d = (pre2 ++ rt10 1 d) ++ (flat d ++ rt10 2 0) := by show pre2 ++ (rt10 1 d ++ (flat d ++ rt10 2 0)) = _; rw [List.append_assoc]
    have e6 : nums 2 d = (pre2 ++ (rt10 1 d ++ flat d)) ++ rt10 2 0 := by show pre2 ++ (rt10 1 d ++ (flat d ++ rt10 2 0)) = _; rw [List.append_assoc, List.append_assoc]
    have lp : (pre2 ++ (rt10 1 d ++ flat d)).length = 19 + 2 * d := by rw [List.length_append, List.length_append, flat_len]; show 9 + (10 + 2 * d) = _; omega
    have s1 : cutA (iL (nums 2 d)) (some ((19 + 2 * d : Nat) : Int)) (some (((19 + 2 * d : Nat) : Int) + 5)) = iL [2, 2, 0, 0, 0] := by
      rw [e6, show rt10 2 0 = [2, 2, 0, 0, 0] ++ [0, 0, 43, 5, 0] from rfl]; exact cut_mid (by rw [lp]) rfl
    have s2 : cutA (iL (nums 2 d)) (some (((19 + 2 * d : Nat) : Int) + 5)) (some (((19 + 2 * d : Nat) : Int) + 7)) = iL [0, 0] := by
      rw [e6, show rt10 2 0 = [2, 2, 0, 0, 0] ++ ([0, 0] ++ [43, 5, 0]) from rfl, ← List.append_assoc]; exact cut_mid (by rw [List.length_append, lp]; rfl) (by show _ = _ + 5 + 2; omega)
    have s3 : cutA (iL (nums 2 d)) (some (((19 + 2 * d : Nat) : Int) + 7)) (some (((19 + 2 * d : Nat) : Int) + 9)) = iL [41 + 2, 5] := by
      rw [e6, show rt10 2 0 = [2, 2, 0, 0, 0, 0, 0] ++ ([41 + 2, 5] ++ [0]) from rfl, ← List.append_assoc]; exact cut_mid (by rw [List.length_append, lp]; rfl) (by show _ = _ + 7 + 2; omega)
    have g9 : (nums 2 d)[19 + 2 * d + 9]? = some ((0 : Nat) : Int) := by
      rw [e6, List.getElem?_append_right (by rw [lp]; omega), lp, show 19 + 2 * d + 9 - (19 + 2 * d) = 9 by omega]; rfl
    have g := run_book2 (R := nums 2 d |>.drop 3) (d := d) hd (by rw [List.length_drop, nums_len]; show 29 + 2 * d - 3 < _; omega)
      (by show cutA (iL (nums 2 d)) _ _ = _; rw [e]; exact cut_mid rfl rfl)
      (by show cutA (iL (nums 2 d)) _ _ = _; rw [f]; exact cut_mid rfl rfl)
      (fun ρ hr => w_root (n := 9) (N := nums 2 d) hr (by decide) hd (by rw [e2]; exact cut_mid rfl rfl) (by rw [e3]; exact cut_mid rfl rfl) (by rw [e4]; exact cut_mid rfl rfl) rfl (fun k hk => by
        have hp : (pre2 ++ rt10 1 d).length = 19 := rfl
        have r : ∀ m, m < 2 * d → (nums 2 d)[19 + m]? = (flat d)[m]? := fun m hm => by
          rw [e5, List.getElem?_append_right (by rw [hp]; omega), hp, show 19 + m - 19 = m by omega, List.getElem?_append_left (by rw [flat_len]; omega)]
        have q := flat_get hk
        rw [← r (2 * k) (by omega), ← r (2 * k + 1) (by omega)] at q
        rw [show 9 + 10 + 2 * k = 19 + 2 * k by omega, show 9 + 11 + 2 * k = 19 + (2 * k + 1) by omega]
        exact q))
      (fun ρ hr => by
        have q := w_root (ρ := ρ) (n := 19 + 2 * d) (N := nums 2 d) (d := 0) (i := 2) hr (by omega) (by decide) s1 s2 s3 g9 (fun k hk => absurd hk (Nat.not_lt_zero k))
        rw [show ((19 + 2 * d : Nat) : Int) = 19 + 2 * (d : Int) by omega] at q
        exact q)
    obtain ⟨b, hb, hr⟩ := g
    exact ⟨b, hb, fun _ hn => cf1 rfl hr hn⟩
/-! ### the numbers that the law reckons -/
theorem ext_flat {p : List Int} {d k : Nat} : iL (p ++ (rt10 1 d ++ flat k)) ++ [.int (41 + (k : Int)), .int (1 + (k : Int))] = iL (p ++ (rt10 1 d ++ flat (k + 1))) := by
  rw [flat_succ, ← List.append_assoc, ← List.append_assoc, ← List.append_assoc]
  exact iL_app (ms := [41 + (k : Int), 1 + (k : Int)])
theorem run_nums {m : Int} {h d : Nat} (hd : d < 1000) (e : m = (cnt h d : Nat)) (hh : h < 3) : m__law_numbers.run [.im false (.int m)] = .ok (.im (.tup (iL (nums h d)))) [.no] := by
  refine w_run (K := fun D => D = .ok (.im (.tup (iL (nums h d)))) [.no]) ?_
  simp only [m__law_numbers]
  walk_at "mev"
  match h, hh, e with
  | 0, _, e =>
    have e : m = 3 := e
    subst e
    walk_at "mev"
    rfl
  | 1, _, e =>
    have e : m = ((16 + 2 * d : Nat) : Int) := e
    rw [decide_eq_false (by omega)]
    walk_at "mev"
    rw [decide_eq_true (show m % 2 = 0 by omega)]
    walk_at "mev"
    rw [show rangeL 1 1 = [.int 1] from rfl]
    refine wf_go ?_
    walk_at "mev"
    rw [show rangeL 1 1 = [.int 1] from rfl]
    refine wf_go ?_
    walk_at "mev"
    rw [show (m - 3 - 13) / 2 = (d : Int) by omega]
    refine wc_for (P := fun k ρ' => ∃ o5, ρ' = [.im false (.int m), .im false (.int 1), .im false (.int (d : Int)), .ow false (.lst (iL (pre1 ++ (rt10 1 d ++ flat k)))), .im false (.int 1), fS o5]) ⟨none, rfl⟩ ?_ ?_
    · rintro k x ρ' hx ⟨o5, rfl⟩
      obtain ⟨hk, rfl⟩ := rangeL_get _ _ _ _ hx
      have hl : (flat k).length ≤ 2000 := by rw [flat_len]; omega
      have hl2 : (rt10 1 d).length = 10 := rfl
      have hl3 : pre1.length = 6 := rfl
      walk_at "mev"
      simp only [Int.zero_add]
      exact ⟨some (false, _), by rw [← ext_flat]; rfl⟩
    · rintro ρ' ⟨o5, rfl⟩
      rw [rangeL_len, Int.toNat_natCast]
      walk_at "mev"
      rfl
  | 2, _, e =>
    have e : m = ((29 + 2 * d : Nat) : Int) := e
    rw [decide_eq_false (by omega)]
    walk_at "mev"
    rw [decide_eq_false (show ¬ m % 2 = 0 by omega)]
    walk_at "mev"
    rw [show rangeL 1 2 = [.int 1, .int 2] from rfl]
    refine wf_go ?_
    walk_at "mev"
    refine wf_go ?_
    walk_at "mev"
    rw [show rangeL 1 2 = [.int 1, .int 2] from rfl]
    refine wf_go ?_
    walk_at "mev"
    rw [show (m - 3 - 26) / 2 = (d : Int) by omega]
    refine wc_for (P := fun k ρ' => ∃ o5, ρ' = [.im false (.int m), .im false (.int 2), .im false (.int (d : Int)), .ow false (.lst (iL (pre2 ++ (rt10 1 d ++ flat k)))), .im false (.int 1), fS o5]) ⟨none, rfl⟩ ?_ ?_
    · rintro k x ρ' hx ⟨o5, rfl⟩
      obtain ⟨hk, rfl⟩ := rangeL_get _ _ _ _ hx
      have hl : (flat k).length ≤ 2000 := by rw [flat_len]; omega
      have hl2 : (rt10 1 d).length = 10 := rfl
      have hl3 : pre2.length = 9 := rfl
      walk_at "mev"
      simp only [Int.zero_add]
      exact ⟨some (false, _), by rw [← ext_flat]; rfl⟩
    · rintro ρ' ⟨o5, rfl⟩
      rw [rangeL_len, Int.toNat_natCast]
      have hl : (flat d).length ≤ 2000 := by rw [flat_len]; omega
      have hl2 : (rt10 1 d).length = 10 := rfl
      have hl3 : pre2.length = 9 := rfl
      walk_at "mev"
      refine wf_go ?_
      walk_at "mev"
      have e2 : iL (pre2 ++ (rt10 1 d ++ flat d)) ++ [Py.int 2, Py.int 2, Py.int 0, Py.int 0, Py.int 0, Py.int 0, Py.int 0, Py.int 43, Py.int 5, Py.int 0] = iL (nums 2 d) := by
        rw [show ([Py.int 2, Py.int 2, Py.int 0, Py.int 0, Py.int 0, Py.int 0, Py.int 0, Py.int 43, Py.int 5, Py.int 0] : List Py) = iL (rt10 2 0) from rfl, iL_app]
        show iL _ = iL (pre2 ++ (rt10 1 d ++ (flat d ++ rt10 2 0)))
        rw [List.append_assoc, List.append_assoc]
      rw [e2, wr_iL]
theorem w_nums {ρ : Rho} {m : Int} {h d : Nat} (hn : nal ρ = true) (hd : d < 1000) (e : m = (cnt h d : Nat)) (hh : h < 3) : callR m__law_numbers ρ [.im (.int m)] = .ok (.im (.tup (iL (nums h d)))) ρ := cp1 rfl (run_nums hd e hh) hn
/-! ### does a book fit -/
theorem run_need1 {h d : Nat} (hh : h < 3) (hd : d < 1000) (hc : cnt h d ≤ 600) : m_need_fitting.run [.im false (bookD h d)] = .ok (.im .non) [.no] := by
  refine w_run (K := fun D => D = .ok (.im .non) [.no]) ?_
  simp only [m_need_fitting]
  walk_at "mev"
  rw [w_bookn hh hd rfl]
  walk_at "mev"
  rw [iL_len, nums_len, decide_eq_false (by omega)]
  walk_at "mev"
theorem run_need2 {h d : Nat} (hh : h < 3) (hd : d < 1000) (hc : ¬ cnt h d ≤ 600) : m_need_fitting.run [.im false (bookD h d)] = .ex 0 (.int (cnt h d : Nat)) [.no] := by
  refine w_run (K := fun D => D = .ex 0 (.int (cnt h d : Nat)) [.no]) ?_
  simp only [m_need_fitting]
  walk_at "mev"
  rw [w_bookn hh hd rfl]
  walk_at "mev"
  rw [iL_len, nums_len, decide_eq_true (by omega)]
  walk_at "mev"
def fitR (n : Int) : Py := if n ≤ 600 then .tup [.str "fits"] else .tup [.str "full", .int n, .bl true]
theorem run_fit {h d : Nat} (hh : h < 3) (hd : d < 1000) : m__law_fitting.run [.im false (bookD h d)] = .ok (.im (fitR (cnt h d : Nat))) [.no] := by
  refine w_run (K := fun D => D = .ok (.im (fitR (cnt h d : Nat))) [.no]) ?_
  simp only [m__law_fitting]
  walk_at "mev"
  by_cases hc : cnt h d ≤ 600
  · rw [cp1 rfl (run_need1 hh hd hc) rfl]
    walk_at "mev"
    unfold fitR
    rw [if_pos (by omega)]
  · rw [cx1 rfl (run_need2 hh hd hc) rfl]
    walk_at "mev"
    refine (try_ex (ρ' := [.im false (bookD h d), .no]) (by decide) (by decide) rfl).mpr ?_
    walk_at "mev"
    rw [show is_Refused 0 = true from rfl, show is_ValueError 0 = true from rfl, show is_NoRoom 0 = false from rfl]
    walk_at "mev"
    unfold fitR
    rw [if_neg (by omega)]
theorem w_fit {ρ : Rho} {h d : Nat} (hn : nal ρ = true) (hh : h < 3) (hd : d < 1000) : callR m__law_fitting ρ [.im (bookD h d)] = .ok (.im (fitR (cnt h d : Nat))) ρ := cp1 rfl (run_fit hh hd) hn
/-! ### pages -/
def pg (ns : List Int) (k : Nat) : Py := .tup (iL ((ns.take (60 * k + 60)).drop (60 * k)))
def pgs (ns : List Int) (n : Nat) : List Py := (List.range n).map (pg ns)
def npg (n : Nat) : Nat := (n + 59) / 60
theorem pgs_succ (ns : List Int) (n : Nat) : pgs ns (n + 1) = pgs ns n ++ [pg ns n] := by unfold pgs; rw [List.range_succ, List.map_append]; rfl
theorem pgs_len (ns : List Int) (n : Nat) : (pgs ns n).length = n := by unfold pgs; rw [List.length_map, List.length_range]
theorem pgs_get {ns : List Int} {n k : Nat} (h : k < n) : (pgs ns n)[k]? = some (pg ns k) := by unfold pgs; rw [List.getElem?_map, List.getElem?_range h]; rfl
theorem pgs_imm (ns : List Int) (n : Nat) : Py.immL (pgs ns n) = true := immL_all fun d hd => by
  obtain ⟨k, _, rfl⟩ := List.mem_map.mp hd; exact immL_iL _
theorem rng_n {n : Nat} (h : 0 < n) (h2 : n < 10000) : (if (0 : Int) < (n : Int) then ((n : Int) - 0 - 1) / 60 + 1 else 0).toNat = npg n := by
  unfold npg
  rw [if_pos (by omega)]
  omega
theorem cut_pg {ns : List Int} {k : Nat} : cutA (iL ns) (some (0 + (k : Int) * 60)) (some (0 + (k : Int) * 60 + 60)) = iL ((ns.take (60 * k + 60)).drop (60 * k)) := by
  rw [show (0 : Int) + (k : Int) * 60 = ((60 * k : Nat) : Int) by omega, show ((60 * k : Nat) : Int) + 60 = ((60 * k + 60 : Nat) : Int) by omega, cut_nat, ← List.map_take, ← List.map_drop]
theorem run_pages {ns : List Int} (h0 : 0 < ns.length) (h : ns.length < 10000) : m_pages_of.run [.im false (.tup (iL ns))] = .ok (.fr (.lst (pgs ns (npg ns.length)))) [.no] := by
  refine w_run (K := fun D => D = .ok (.fr (.lst (pgs ns (npg ns.length)))) [.no]) ?_
  simp only [m_pages_of]
  walk_at "mev"
  rw [iL_len, fr_3 (by omega) (by omega) (by omega) (by omega) (by omega) (by omega), rng_n h0 h]
  walk_at "mev"
  refine wc_lca (pgs ns) rfl ?_ ?_
  · intro k e he
    obtain ⟨hk, rfl⟩ := rangeC_get _ _ _ _ _ he
    have hp : (pgs ns k).length < 16777216 := by rw [pgs_len]; unfold npg at hk; omega
    walk_at "mev"
    rw [cut_pg]
    walk_at "mev"
    rw [pgs_succ]
    rfl
  · walk_at "mev"
    rw [rangeC_len]
theorem w_pages {ρ : Rho} {ns : List Int} (hn : nal ρ = true) (h0 : 0 < ns.length) (h : ns.length < 10000) : callR m_pages_of ρ [.im (.tup (iL ns))] = .ok (.fr (.lst (pgs ns (npg ns.length)))) ρ := cf1 rfl (run_pages h0 h) hn
/-! ### rows of pages -/
def mrow (k pl nm : Int) (p : List Int) : List Int := (k :: pl :: nm :: (p.length : Int) :: p) ++ [wsum 1 (k :: pl :: nm :: (p.length : Int) :: p) % 1000003]
theorem run_made {k pl nm : Int} {p : List Int} (h : p.length < 1000) : m_made_row.run [.im false (.int k), .im false (.int pl), .im false (.int nm), .im false (.tup (iL p))] = .ok (.im (.tup (iL (mrow k pl nm p)))) [.no, .no, .no, .no] := by
  refine w_run (K := fun D => D = .ok (.im (.tup (iL (mrow k pl nm p)))) [.no, .no, .no, .no]) ?_
  simp only [m_made_row]
  walk_at "mev"
  rw [iL_len, show Py.int k :: Py.int pl :: Py.int nm :: Py.int (p.length : Nat) :: List.map Py.int p = iL (k :: pl :: nm :: (p.length : Int) :: p) from rfl, w_check_of rfl (by simp only [List.length_cons]; omega)]
  walk_at "mev"
  unfold mrow
  simp only [List.map_cons, List.map_append, List.cons_append, List.map_nil]
theorem run_place {a i : Int} : m_page_place.run [.im false (.int a), .im false (.int i)] = .ok (.im (.int (11 * a + i))) [.no, .no] := by
  refine w_run (K := fun D => D = .ok (.im (.int (11 * a + i))) [.no, .no]) ?_
  simp only [m_page_place]
  walk_at "mev"
def prow (ns : List Int) (k : Nat) : Py := .tup [.int (11 + ((k : Int) + 1)), .tup (iL (mrow 2 (11 + ((k : Int) + 1)) 9 ((ns.take (60 * k + 60)).drop (60 * k))))]
def prows (ns : List Int) (n : Nat) : List Py := (List.range n).map (prow ns)
theorem prows_succ (ns : List Int) (n : Nat) : prows ns (n + 1) = prows ns n ++ [prow ns n] := by unfold prows; rw [List.range_succ, List.map_append]; rfl
theorem prows_len (ns : List Int) (n : Nat) : (prows ns n).length = n := by unfold prows; rw [List.length_map, List.length_range]
theorem prows_get {ns : List Int} {n k : Nat} (h : k < n) : (prows ns n)[k]? = some (prow ns k) := by unfold prows; rw [List.getElem?_map, List.getElem?_range h]; rfl
theorem page_len {ns : List Int} {k : Nat} : ((ns.take (60 * k + 60)).drop (60 * k)).length ≤ 60 := by rw [List.length_drop, List.length_take]; omega
theorem prow_imm {ns : List Int} {k : Nat} : (prow ns k).imm = true := by
  show (true && (Py.immL (iL _) && true)) = true
  rw [immL_iL]; rfl
theorem run_prows {ns : List Int} (h0 : 0 < ns.length) (h : ns.length < 10000) : m_page_rows.run [.im false (.int 1), .im false (.int 9), .im false (.tup (iL ns))] = .ok (.fr (.lst (prows ns (npg ns.length)))) [.no, .no, .no] := by
  refine w_run (K := fun D => D = .ok (.fr (.lst (prows ns (npg ns.length)))) [.no, .no, .no]) ?_
  simp only [m_page_rows]
  walk_at "mev"
  rw [w_pages rfl h0 h]
  walk_at "mev"
  refine wc_for (P := fun k ρ' => ∃ o4 o5 o6, ρ' = [.im false (.int 1), .im false (.int 9), .im false (.tup (iL ns)), .ow false (.lst (prows ns k)), fS o4, fS o5, fS o6]) ⟨none, none, none, rfl⟩ ?_ ?_
  · rintro k e ρ' he ⟨o4, o5, o6, rfl⟩
    obtain ⟨x, h1, rfl⟩ := enum_at he
    have hk : k < npg ns.length := by have := (List.getElem?_eq_some_iff.mp h1).1; rwa [pgs_len] at this
    rw [pgs_get hk] at h1
    have h1 := Option.some.inj h1
    subst h1
    have hp : (prows ns k).length < 16777216 := by rw [prows_len]; unfold npg at hk; omega
    rw [show pg ns k = .tup (iL ((ns.take (60 * k + 60)).drop (60 * k))) from rfl]
    walk_at "mev"
    rw [cp2 rfl run_place (by walk_at "nal")]
    walk_at "mev"
    rw [cp4 rfl (run_made (by have := page_len (ns := ns) (k := k); omega)) (by walk_at "nal")]
    walk_at "mev"
    exact ⟨some (false, _), some (false, _), some (false, _), by rw [prows_succ]; rfl⟩
  · rintro ρ' ⟨o4, o5, o6, rfl⟩
    rw [enumL_len, pgs_len]
    walk_at "mev"
theorem ci0 {m : DM} {ρ : Rho} {i : Nat} {io : Bool} {t t' : Py} {r : Rv} {os : List Sl} (hi : m.ios = [true]) (hr : m.run [.ow true t] = .ok r (.ow true t' :: os)) (hb : r.free = true) (hn : nal ρ = true) (ho : ρ[i]? = some (.ow io t)) (hm : t.mut = true) (ht : t'.imm = false) :
    callR m ρ [.bo i []] = .ok r (ρ.set i (.ow io t')) := ci (ds := []) hi hr hb hn ho hm ht
/-! ### the size drawn -/
theorem run_size {d : Py} (hd : Src d) : ∃ (m : Int) (d' : Py), Src d' ∧ (m = 3 ∨ (16 ≤ m ∧ m < 700)) ∧ m__law_size.run [.ow true d] = .ok (.im (.int m)) [.ow true d'] := by
  refine w_run (K := fun D => ∃ (m : Int) (d' : Py), Src d' ∧ (m = 3 ∨ (16 ≤ m ∧ m < 700)) ∧ D = .ok (.im (.int m)) [.ow true d']) ?_
  simp only [m__law_size]
  walk_at "mev"
  obtain ⟨r, d1, h1, h2, h3, h4⟩ := w_take (ρ := [.ow true d, .no]) (i := 0) (t := 625) rfl rfl hd (by decide) (by decide)
  rw [h4]
  walk_at "mev"
  obtain ⟨x, d2, hx, h5, h6⟩ := w_one (ρ := [.ow true d1, .no]) (i := 0) (l := [.int 3, .int 16, .int 59, .int 60, .int 61, .int 119, .int 120, .int 121, .int 540, .int 598, .int 599, .int 600, .int 601, .int 602, .int 600, .int 601, .int (16 + r)]) rfl rfl h3 (by simp only [List.length_cons]; omega) (by simp only [List.length_cons, List.length_nil]; omega)
  have hv : ∃ v : Int, x = .int v ∧ (v = 3 ∨ (16 ≤ v ∧ v < 698)) := by
    simp only [List.mem_cons, List.not_mem_nil, or_false] at hx
    rcases hx with hx | hx | hx | hx | hx | hx | hx | hx | hx | hx | hx | hx | hx | hx | hx | hx | hx <;> exact ⟨_, hx, by omega⟩
  obtain ⟨v, rfl, hv⟩ := hv
  rw [h6]
  walk_at "mev"
  have fin : ∀ w : Int, (w = 3 ∨ (16 ≤ w ∧ w < 700)) → WS (.rt (.im (.int w)) [Sl.ow true d2, Sl.im false (Py.int v)]) (kRun [Sl.ow true d] fun D => ∃ m d', Src d' ∧ (m = 3 ∨ 16 ≤ m ∧ m < 700) ∧ D = DR.ok (Rv.im (Py.int m)) [Sl.ow true d']) := fun w hw => by
    walk_at "mev"
    exact ⟨_, _, h5, hw, rfl⟩
  refine wc_ifE (fun q => ?_) (fun q => ?_)
  · have q := of_decide_eq_true q
    walk_at "mev"
    refine wc_ifE (fun q2 => ?_) (fun q2 => ?_)
    · walk_at "mev"
      refine wc_ifE (fun q3 => ?_) (fun q3 => ?_)
      · walk_at "mev"
        exact ⟨_, _, h5, by omega, rfl⟩
      · walk_at "mev"
        exact ⟨_, _, h5, by omega, rfl⟩
    · walk_at "mev"
      exact ⟨_, _, h5, by omega, rfl⟩
  · walk_at "mev"
    exact ⟨_, _, h5, by omega, rfl⟩
theorem w_size {ρ : Rho} {i : Nat} {io : Bool} {d : Py} (hn : nal ρ = true) (ho : ρ[i]? = some (.ow io d)) (hd : Src d) : ∃ (m : Int) (d' : Py), Src d' ∧ (m = 3 ∨ (16 ≤ m ∧ m < 700)) ∧ callR m__law_size ρ [.bo i []] = .ok (.im (.int m)) (ρ.set i (.ow io d')) := by
  obtain ⟨m, d', h1, h2, h3⟩ := run_size hd
  exact ⟨m, d', h1, h2, ci (ds := []) rfl h3 rfl hn ho hd.mut h1.imm⟩
theorem cnt_of {m : Int} (h : m = 3 ∨ (16 ≤ m ∧ m < 700)) (h2 : ¬ (m < 29 ∧ 16 < m ∧ m % 2 = 1)) : ∃ hh d : Nat, hh < 3 ∧ d < 1000 ∧ m = (cnt hh d : Nat) := by
  rcases h with h | h
  · exact ⟨0, 0, by decide, by decide, h⟩
  · by_cases e : m % 2 = 0
    · exact ⟨1, ((m - 16) / 2).toNat, by decide, by omega, by show m = ((16 + 2 * ((m - 16) / 2).toNat : Nat) : Int); omega⟩
    · exact ⟨2, ((m - 29) / 2).toNat, by decide, by omega, by show m = ((29 + 2 * ((m - 29) / 2).toNat : Nat) : Int); omega⟩
theorem cnt_pos {h d : Nat} : 0 < cnt h d := by
  match h with
  | 0 => show 0 < 3; decide
  | 1 => show 0 < 16 + 2 * d; omega
  | n + 2 => show 0 < 29 + 2 * d; omega
theorem cnt_le {h d : Nat} (hd : d < 1000) : cnt h d < 10000 := by
  match h with
  | 0 => show 3 < 10000; omega
  | 1 => show 16 + 2 * d < 10000; omega
  | n + 2 => show 29 + 2 * d < 10000; omega
/-! ### pages -/
theorem cut_init {l : List Py} (h : 0 < l.length) : cutA l none (some (-1)) = l.take (l.length - 1) := by
  unfold cutA
  show (l.drop 0).take ((if (-1 : Int) < 0 then ((-1 : Int) + l.length).toNat else min (-1 : Int).toNat l.length) - 0) = _
  rw [if_pos (by decide), List.drop_zero, Nat.sub_zero, show ((-1 : Int) + l.length).toNat = l.length - 1 by omega]
theorem cut_4 {l : List Py} (h : 5 ≤ l.length) : cutA l (some 4) (some (-1)) = (l.take (l.length - 1)).drop 4 := by
  unfold cutA
  show (l.drop (if (4 : Int) < 0 then ((4 : Int) + l.length).toNat else min (4 : Int).toNat l.length)).take ((if (-1 : Int) < 0 then ((-1 : Int) + l.length).toNat else min (-1 : Int).toNat l.length) - (if (4 : Int) < 0 then ((4 : Int) + l.length).toNat else min (4 : Int).toNat l.length)) = _
  rw [if_neg (show ¬ (4 : Int) < 0 by decide), if_pos (show (-1 : Int) < 0 by decide), show min (4 : Int).toNat l.length = 4 by omega, show ((-1 : Int) + l.length).toNat = l.length - 1 by omega, List.drop_take]
theorem cut_row {k pl nm : Int} {p : List Int} : cutA (iL (mrow k pl nm p)) (some 4) (some (-1)) = iL p := by
  have hl : (mrow k pl nm p).length = p.length + 5 := by unfold mrow; rw [List.length_append]; rfl
  rw [cut_4 (by rw [iL_len, hl]; omega), iL_len, hl, ← List.map_take, ← List.map_drop]
  congr 1
  unfold mrow
  rw [List.take_left' (by rfl)]
  rfl
theorem pgs_take {ns : List Int} {n k : Nat} (h : k ≤ n) : (pgs ns n).take k = pgs ns k := by
  unfold pgs
  rw [← List.map_take, List.take_range, Nat.min_eq_left h]
def pgl (ns : List Int) (k : Nat) : List Int := (ns.take (60 * k + 60)).drop (60 * k)
theorem pg_eq {ns : List Int} {k : Nat} : pg ns k = .tup (iL (pgl ns k)) := rfl
theorem pgl_len {ns : List Int} {k : Nat} : (pgl ns k).length = min (60 * k + 60) ns.length - 60 * k := by unfold pgl; rw [List.length_drop, List.length_take]
theorem pgl_app {ns : List Int} {k : Nat} : ns.take (60 * k) ++ pgl ns k = ns.take (60 * (k + 1)) := by
  unfold pgl
  have e : ns.take (60 * k) = (ns.take (60 * k + 60)).take (60 * k) := by rw [List.take_take, Nat.min_eq_left (by omega)]
  rw [e, List.take_append_drop]
  rfl
theorem pgs_eqd (ns : List Int) (n : Nat) : Py.eqdL (pgs ns n) = true := eqdL_all fun d hd => by
  obtain ⟨k, _, rfl⟩ := List.mem_map.mp hd; exact eqdL_iL _
theorem pgs_dep (ns : List Int) (n : Nat) : Py.depL (pgs ns n) ≤ 1 := depL_all fun d hd => by
  obtain ⟨k, _, rfl⟩ := List.mem_map.mp hd
  have := depL_iL (pgl ns k)
  show Py.depL (iL (pgl ns k)) + 1 ≤ 1
  omega
theorem ne_pgs (ns : List Int) (n : Nat) : pyNe (.lst (pgs ns n)) (.lst (pgs ns n)) = .im (.bl false) := by
  have d := pgs_dep ns n
  rw [v_ned (d := .lst (pgs ns n)) (e := .lst (pgs ns n)) (pgs_eqd ns n) (pgs_eqd ns n) (by show Py.depL _ + 1 ≤ 60; omega) (by show Py.depL _ + 1 ≤ 60; omega), decide_eq_true rfl]
  rfl
theorem ne_fit (n : Int) : pyNe (fitR n) (fitR n) = .im (.bl false) := by
  have h : SeqAt.shaped (fitR n).toD = true := by
    unfold fitR
    split <;> simp [Py.toD, Py.toDs, SeqAt.shaped, PyData.canLay0, PyData.canLayAll0, PyData.depth, PyData.depthAll, show PyData.strOk "fits" = true by decide +kernel, show PyData.strOk "full" = true by decide +kernel]
  unfold pyNe
  rw [h, if_pos (by decide)]
  congr 2
  unfold fitR
  split <;> simp [Py.toD, Py.toDs, PyData.eqv, PyData.eqvAll]
theorem sixty (n : Nat) : (List.replicate n [Py.int 60]).flatten = iL (List.replicate n 60) := by
  induction n with
  | zero => rfl
  | succ n ih => rw [List.replicate_succ, List.flatten_cons, ih]; rfl
/-! ### the law -/
def s60 (k : Nat) : List Int := List.replicate k 60
theorem s60_len {k : Nat} : (s60 k).length = k := List.length_replicate ..
theorem s60_succ {k : Nat} : iL (s60 (k + 1)) = iL (s60 k) ++ [.int 60] := by unfold s60; rw [List.replicate_succ', ← iL_app]; rfl
theorem sixty' (n : Nat) : (List.replicate n [Py.int 60]).flatten = iL (s60 n) := sixty n
def kQ (Q : Rv → Rho → Prop) : ER → Prop
  | .ok r ρ => Q r ρ
  | _ => False
theorem kQ_ok {Q : Rv → Rho → Prop} {r : Rv} {ρ : Rho} : WE (.ok r ρ) (kQ Q) = Q r ρ := rfl
theorem wc_jB {e : ER} {f : Rv → Rho → ER} {K : ER → Prop} (Q : Rv → Rho → Prop) (h : WE e (kB f (kQ Q))) (k : ∀ r ρ, Q r ρ → WE (.ok r ρ) K) : WE e (kB f K) := by
  have h : kQ Q (e.bind f) := h
  show K (e.bind f)
  cases q : e.bind f with
  | ok r ρ => rw [q] at h; exact k r ρ h
  | ex c w ρ => rw [q] at h; exact h.elim
  | st => rw [q] at h; exact h.elim
theorem wc_fitj {ρ : Rho} {K : ER → Prop} {n : Int} (h3 : ρ[3]? = some (.im false (.int n))) (h : WE (.ok (.im (fitR n)) ρ) K) : WE (ifE (mTup (aCons (mC (.str "fits")) aNil)) (mTup (aCons (mC (.str "full")) (aCons (mVar 3) (aCons (mC (.bl true)) aNil)))) ρ (some (decide (n ≤ 600)))) (kB fz1 K) := by
  refine wc_ifE (fun q => ?_) (fun q => ?_)
  · have q := of_decide_eq_true q
    walk_at "mev"
    unfold fitR at h
    rw [if_pos q] at h
    exact h
  · have q := of_decide_eq_false q
    walk_at "mev"
    rw [h3]
    walk_at "mev"
    unfold fitR at h
    rw [if_neg q] at h
    exact h
set_option maxHeartbeats 0 in
theorem law_run (ns : List Int) (h : ns.length ≤ 63) : ∃ os, m_law.run [.im false (.scr (ns.map Py.int))] = .ok (.im (.bl true)) os := by
  refine w_run (K := fun D => ∃ os, D = .ok (.im (.bl true)) os) ?_
  simp only [m_law]
  walk_at "mev"
  have hb : 1 ≤ max2 1 (min2 (((List.map Py.int ns).length : Nat) : Int) 2) ∧ max2 1 (min2 (((List.map Py.int ns).length : Nat) : Int) 2) ≤ 2 := by
    unfold max2 min2
    split <;> split <;> omega
  generalize max2 1 (min2 (((List.map Py.int ns).length : Nat) : Int) 2) = t at hb ⊢
  rw [fr_1 (by omega)]
  walk_at "mev"
  refine wc_for (P := fun _ ρ' => ∃ o1 o2 o3 o4 o5 o6 o7 o8 o9 o10 o11, ρ' = [.im false (.scr (iL ns)), fS o1, fS o2, fS o3, fS o4, fS o5, fS o6, fS o7, fS o8, fS o9, fS o10, fS o11]) ⟨none, none, none, none, none, none, none, none, none, none, none, rfl⟩ ?_ ?_
  · rintro k e ρ' he ⟨o1, o2, o3, o4, o5, o6, o7, o8, o9, o10, o11, rfl⟩
    obtain ⟨hk, rfl⟩ := rangeL_get _ _ _ _ he
    walk_at "mev"
    obtain ⟨d0, hd0, hr⟩ := run_pool (ns := ns) (c := 0 + (k : Int)) (by omega) (by omega)
    rw [cf2 rfl hr (by walk_at "nal")]
    walk_at "mev"
    obtain ⟨m0, d1, hd1, hm0, hr2⟩ := run_size hd0
    rw [ci0 rfl hr2 rfl (by walk_at "nal") rfl hd0.mut hd1.imm]
    walk_at "mev"
    refine wc_jB (fun r ρ' => ∃ hh d : Nat, hh < 3 ∧ d < 1000 ∧ r = .im (.int (cnt hh d : Nat)) ∧ ρ' = [.im false (.scr (iL ns)), .im false (.int (0 + ↑k)), .ow false d1, .im false (.int m0), fS o4, fS o5, fS o6, fS o7, fS o8, fS o9, fS o10, fS o11]) ?_ ?_
    · refine wc_ifE (fun q => ?_) (fun q => ?_)
      · have q := of_decide_eq_true q
        walk_at "mev"
        refine wc_ifE (fun q2 => ?_) (fun q2 => ?_)
        · have q2 := of_decide_eq_true q2
          walk_at "mev"
          refine wc_ifE (fun q3 => ?_) (fun q3 => ?_)
          · walk_at "mev"
            rw [kQ_ok]
            exact ⟨2, 0, by decide, by decide, rfl, rfl⟩
          · have q3 := of_decide_eq_false q3
            walk_at "mev"
            obtain ⟨hh, d, h1, h2, h3⟩ := cnt_of hm0 (by omega)
            rw [kQ_ok]
            exact ⟨hh, d, h1, h2, by rw [h3], rfl⟩
        · have q2 := of_decide_eq_false q2
          walk_at "mev"
          obtain ⟨hh, d, h1, h2, h3⟩ := cnt_of hm0 (by omega)
          rw [kQ_ok]
          exact ⟨hh, d, h1, h2, by rw [h3], rfl⟩
      · have q := of_decide_eq_false q
        walk_at "mev"
        obtain ⟨hh, d, h1, h2, h3⟩ := cnt_of hm0 (by omega)
        rw [kQ_ok]
        exact ⟨hh, d, h1, h2, by rw [h3], rfl⟩
    rintro r ρ' ⟨hh, d, h1, h2, rfl, rfl⟩
    have hc0 : 0 < cnt hh d := cnt_pos
    have hc1 : cnt hh d < 10000 := cnt_le h2
    walk_at "mev"
    rw [w_nums (by walk_at "nal") h2 rfl h1]
    walk_at "mev"
    obtain ⟨b, hb1, hb2⟩ := w_bookof' h1 h2
    rw [hb2 _ (by walk_at "nal")]
    walk_at "mev"
    rw [hb1]
    walk_at "mev"
    rw [iL_len, nums_len, decide_eq_true rfl]
    walk_at "mev"
    rw [w_bookn h1 h2 (by walk_at "nal")]
    walk_at "mev"
    rw [w_fit (by walk_at "nal") h1 h2]
    walk_at "mev"
    refine wc_fitj rfl ?_
    walk_at "mev"
    rw [ne_fit]
    walk_at "mev"
    refine wc_jB (fun r ρ' => ∃ o9, r = .im (.lst (pgs (nums hh d) (npg (cnt hh d)))) ∧ ρ' = [.im false (.scr (iL ns)), .im false (.int (0 + ↑k)), .ow false d1, .im false (.int (cnt hh d : Nat)), .im false (.tup (iL (nums hh d))), .im false (bookD hh d), fS o6, fS o7, fS o8, fS o9, fS o10, fS o11]) ?_ ?_
    · refine wc_ifE (fun q => ?_) (fun q => ?_)
      · walk_at "mev"
        rw [w_pages (by walk_at "nal") (by rw [nums_len]; exact hc0) (by rw [nums_len]; exact hc1)]
        walk_at "mev"
        rw [pl_imm (pgs_imm _ _), kQ_ok, nums_len]
        exact ⟨_, rfl, rfl⟩
      · walk_at "mev"
        rw [fr_3 (by omega) (by omega) (by omega) (by omega) (by omega) (by omega), rng_n hc0 hc1]
        walk_at "mev"
        refine wc_lca (pgs (nums hh d)) rfl ?_ ?_
        · intro k e he
          obtain ⟨hk, rfl⟩ := rangeC_get _ _ _ _ _ he
          have hp : (pgs (nums hh d) k).length < 16777216 := by rw [pgs_len]; unfold npg at hk; omega
          walk_at "mev"
          rw [cut_pg]
          walk_at "mev"
          rw [pgs_succ]
          rfl
        · walk_at "mev"
          rw [rangeC_len, pl_imm (pgs_imm _ _), kQ_ok]
          exact ⟨none, rfl, rfl⟩
    rintro r ρ' ⟨o9', rfl, rfl⟩
    walk_at "mev"
    have hn : 0 < npg (cnt hh d) := by unfold npg; omega
    have hn2 : 60 * npg (cnt hh d) < cnt hh d + 60 ∧ cnt hh d ≤ 60 * npg (cnt hh d) := by unfold npg; omega
    rw [cut_init (by rw [pgs_len]; exact hn), pgs_len, pgs_take (by omega), wr_imm (pgs_imm _ _)]
    refine wc_lca (fun k => iL (s60 k)) rfl ?_ ?_
    · intro k e he
      have hk : k < npg (cnt hh d) - 1 := by have := (List.getElem?_eq_some_iff.mp he).1; rwa [pgs_len] at this
      rw [pgs_get hk] at he
      have he := Option.some.inj he
      subst he
      rw [pg_eq]
      have hp : (iL (s60 k)).length < 16777216 := by rw [iL_len, s60_len]; omega
      walk_at "mev"
      have e6 : (pgl (nums hh d) k).length = 60 := by rw [pgl_len, nums_len]; omega
      rw [iL_len, e6, s60_succ]
      rfl
    · rw [pgs_len]
      walk_at "mev"
      rw [sixty', plain_iL]
      walk_at "mev"
      rw [decide_eq_true (show s60 (npg (cnt hh d) - 1) = s60 (((cnt hh d : Nat) - 1 : Int) / 60).toNat by congr 1; omega)]
      walk_at "mev"
      rw [pgs_len, ixN_last hn]
      walk_at "mev"
      rw [pgs_get (by omega)]
      walk_at "mev"
      rw [pg_eq]
      walk_at "mev"
      rw [iL_len, pgl_len, nums_len, decide_eq_true (by omega)]
      walk_at "mev"
      refine wc_for (P := fun j ρ' => ∃ o8, ρ' = [.im false (.scr (iL ns)), .im false (.int (0 + ↑k)), .ow false d1, .im false (.int (cnt hh d : Nat)), .im false (.tup (iL (nums hh d))), .im false (bookD hh d), .im false (.lst (pgs (nums hh d) (npg (cnt hh d)))), .ow false (.lst (iL ((nums hh d).take (60 * j)))), fS o8, fS o9', fS o10, fS o11]) ⟨none, rfl⟩ ?_ ?_
      · rintro j e ρ' he ⟨o8, rfl⟩
        have hj : j < npg (cnt hh d) := by have := (List.getElem?_eq_some_iff.mp he).1; rwa [pgs_len] at this
        rw [pgs_get hj] at he
        have he := Option.some.inj he
        subst he
        rw [pg_eq]
        walk_at "mev"
        rw [exO2_ok (by rw [iL_len, iL_len, List.length_take, pgl_len]; omega), wr_iL, iL_app, pgl_app]
        walk_at "mev"
        exact ⟨some (false, _), rfl⟩
      · rintro ρ' ⟨o8, rfl⟩
        rw [pgs_len, List.take_of_length_le (by rw [nums_len]; omega)]
        walk_at "mev"
        rw [w_fit (by walk_at "nal") h1 h2]
        walk_at "mev"
        refine wc_fitj rfl ?_
        walk_at "mev"
        rw [ne_fit]
        walk_at "mev"
        rw [w_bookn h1 h2 (by walk_at "nal")]
        walk_at "mev"
        rw [w_fit (by walk_at "nal") h1 h2]
        walk_at "mev"
        refine wc_fitj rfl ?_
        walk_at "mev"
        rw [ne_fit]
        walk_at "mev"
        refine wc_ifE (fun q => ?_) (fun q => ?_)
        · walk_at "mev"
          rw [cf3 rfl (run_prows (by rw [nums_len]; exact hc0) (by rw [nums_len]; exact hc1)) (by walk_at "nal"), nums_len]
          walk_at "mev"
          refine wc_lca (pgs (nums hh d)) rfl ?_ ?_
          · intro j e he
            have hj : j < npg (cnt hh d) := by have := (List.getElem?_eq_some_iff.mp he).1; rwa [prows_len] at this
            rw [prows_get hj] at he
            have he := Option.some.inj he
            subst he
            rw [show prow (nums hh d) j = .tup [.int (11 + ((j : Int) + 1)), .tup (iL (mrow 2 (11 + ((j : Int) + 1)) 9 (pgl (nums hh d) j)))] from rfl]
            have hp : (pgs (nums hh d) j).length < 16777216 := by rw [pgs_len]; unfold npg at hj; omega
            walk_at "mev"
            rw [cut_row]
            walk_at "mev"
            rw [pgs_succ]
            rfl
          · rw [prows_len]
            walk_at "mev"
            rw [pl_imm (pgs_imm _ _), ne_pgs]
            walk_at "mev"
            exact ⟨some (false, _), some (true, _), some (false, _), some (false, _), some (false, _), some (false, _), some (true, _), o8, o9', none, none, rfl⟩
        · walk_at "mev"
          exact ⟨some (false, _), some (true, _), some (false, _), some (false, _), some (false, _), some (false, _), some (true, _), o8, o9', o10, o11, rfl⟩
  · rintro ρ' ⟨o1, o2, o3, o4, o5, o6, o7, o8, o9, o10, o11, rfl⟩
    walk_at "mev"
    exact ⟨_, rfl⟩
end Lw
namespace Lw
open PySem PySem.Spec PyProof.Rows L2 Mr
theorem all_mk {l : PySem.W.OpenLaw} {w : World} {K : PySem.W.Frag} {h : Heap} {mg : Str → Option Value} {fa : Addr} (X : K.In h) (G : h.Ns mainGlobals mg) (hfa : mg "law" = some (.ref fa))
  {C_Root C_Volume C_Book : Addr}
  {f_page_place : Addr} {oc_page_place kV_page_place dc_page_place pm_page_place cd_page_place ct_page_place : Value} {od_page_place an_page_place : Option Addr} {sl_page_place : Array (Option Value)}
  {f_name_number : Addr} {oc_name_number kV_name_number dc_name_number pm_name_number cd_name_number ct_name_number : Value} {od_name_number an_name_number : Option Addr} {sl_name_number : Array (Option Value)}
  {f_name_of : Addr} {oc_name_of kV_name_of dc_name_of pm_name_of cd_name_of ct_name_of : Value} {od_name_of an_name_of : Option Addr} {sl_name_of : Array (Option Value)}
  {f_root_numbers : Addr} {oc_root_numbers kV_root_numbers dc_root_numbers pm_root_numbers cd_root_numbers ct_root_numbers : Value} {od_root_numbers an_root_numbers : Option Addr} {sl_root_numbers : Array (Option Value)}
  {f_book_numbers : Addr} {oc_book_numbers kV_book_numbers dc_book_numbers pm_book_numbers cd_book_numbers ct_book_numbers : Value} {od_book_numbers an_book_numbers : Option Addr} {sl_book_numbers : Array (Option Value)}
  {f_Root___init__ : Addr} {oc_Root___init__ kV_Root___init__ dc_Root___init__ pm_Root___init__ cd_Root___init__ ct_Root___init__ : Value} {od_Root___init__ an_Root___init__ : Option Addr} {sl_Root___init__ : Array (Option Value)}
  {f_root_of : Addr} {oc_root_of kV_root_of dc_root_of pm_root_of cd_root_of ct_root_of : Value} {od_root_of an_root_of : Option Addr} {sl_root_of : Array (Option Value)}
  {f_Volume___init__ : Addr} {oc_Volume___init__ kV_Volume___init__ dc_Volume___init__ pm_Volume___init__ cd_Volume___init__ ct_Volume___init__ : Value} {od_Volume___init__ an_Volume___init__ : Option Addr} {sl_Volume___init__ : Array (Option Value)}
  {f_Book___init__ : Addr} {oc_Book___init__ kV_Book___init__ dc_Book___init__ pm_Book___init__ cd_Book___init__ ct_Book___init__ : Value} {od_Book___init__ an_Book___init__ : Option Addr} {sl_Book___init__ : Array (Option Value)}
  {f_book_of : Addr} {oc_book_of kV_book_of dc_book_of pm_book_of cd_book_of ct_book_of : Value} {od_book_of an_book_of : Option Addr} {sl_book_of : Array (Option Value)}
  {f_pages_of : Addr} {oc_pages_of kV_pages_of dc_pages_of pm_pages_of cd_pages_of ct_pages_of : Value} {od_pages_of an_pages_of : Option Addr} {sl_pages_of : Array (Option Value)}
  {f_need_fitting : Addr} {oc_need_fitting kV_need_fitting dc_need_fitting pm_need_fitting cd_need_fitting ct_need_fitting : Value} {od_need_fitting an_need_fitting : Option Addr} {sl_need_fitting : Array (Option Value)}
  {f_check_of : Addr} {oc_check_of kV_check_of dc_check_of pm_check_of cd_check_of ct_check_of : Value} {od_check_of an_check_of : Option Addr} {sl_check_of : Array (Option Value)}
  {f_made_row : Addr} {oc_made_row kV_made_row dc_made_row pm_made_row cd_made_row ct_made_row : Value} {od_made_row an_made_row : Option Addr} {sl_made_row : Array (Option Value)}
  {f_page_rows : Addr} {oc_page_rows kV_page_rows dc_page_rows pm_page_rows cd_page_rows ct_page_rows : Value} {od_page_rows an_page_rows : Option Addr} {sl_page_rows : Array (Option Value)}
  {f__law_pool : Addr} {oc__law_pool kV__law_pool dc__law_pool pm__law_pool cd__law_pool ct__law_pool : Value} {od__law_pool an__law_pool : Option Addr} {sl__law_pool : Array (Option Value)}
  {f__law_take : Addr} {oc__law_take kV__law_take dc__law_take pm__law_take cd__law_take ct__law_take : Value} {od__law_take an__law_take : Option Addr} {sl__law_take : Array (Option Value)}
  {f__law_one : Addr} {oc__law_one kV__law_one dc__law_one pm__law_one cd__law_one ct__law_one : Value} {od__law_one an__law_one : Option Addr} {sl__law_one : Array (Option Value)}
  {f__law_numbers : Addr} {oc__law_numbers kV__law_numbers dc__law_numbers pm__law_numbers cd__law_numbers ct__law_numbers : Value} {od__law_numbers an__law_numbers : Option Addr} {sl__law_numbers : Array (Option Value)}
  {f__law_fitting : Addr} {oc__law_fitting kV__law_fitting dc__law_fitting pm__law_fitting cd__law_fitting ct__law_fitting : Value} {od__law_fitting an__law_fitting : Option Addr} {sl__law_fitting : Array (Option Value)}
  {f__law_size : Addr} {oc__law_size kV__law_size dc__law_size pm__law_size cd__law_size ct__law_size : Value} {od__law_size an__law_size : Option Addr} {sl__law_size : Array (Option Value)}
  {f_law : Addr} {oc_law kV_law dc_law pm_law cd_law ct_law : Value} {od_law an_law : Option Addr} {sl_law : Array (Option Value)}
  {t_AREA_CELLS : Tok}
  {t_BASE : Tok}
  {t_LETTERS : Tok}
  {t_MODULUS : Tok}
  {t_PAGE : Tok}
  {t_PAGES : Tok}
  {t_PAGE_NUMBERS : Tok}
  {t_ROOT_NUMBERS : Tok}
  {t_VOLUME_NUMBERS : Tok}
  {c_Refused : Addr}
  {c_NoRoom : Addr}
  {c_BookFull : Addr}
  {fI : Addr} {oc_I dc_I pm_I cd_I ct_I : Value} {od_I an_I : Option Addr} {sl_I : Array (Option Value)}
  {nm_BookFull q_BookFull : Str} {N_BookFull : Addr} {bs_BookFull : List Value} {sn_BookFull : List Str} {sub_BookFull : List Value} {ab_BookFull : Bool} {col_BookFull : Option Bool} {dd_BookFull : Option Addr} {m0_BookFull m1_BookFull m2_BookFull m3_BookFull m5_BookFull : Option Value}
  (gC_Root : PySem.W.nsIn K mainGlobals "Root" = some (some (.ref C_Root)))
  (gC_Volume : PySem.W.nsIn K mainGlobals "Volume" = some (some (.ref C_Volume)))
  (gC_Book : PySem.W.nsIn K mainGlobals "Book" = some (some (.ref C_Book)))
  (a_page_place : PySem.W.nsIn K mainGlobals "page_place" = some (some (.ref f_page_place)))
  (l_page_place : K.lookup f_page_place = some ⟨oc_page_place, od_page_place, .func (PySem.W.fnOf "page_place" "page_place" (defArgs s_page_place) (defBody s_page_place) (defScope s_page_place) .none kV_page_place dc_page_place pm_page_place an_page_place cd_page_place ct_page_place), sl_page_place⟩)
  (c_page_place : PySem.W.codeIn K cd_page_place "page_place" = true)
  (k_page_place : PySem.W.keepIn K (.ref f_page_place) = true)
  (a_name_number : PySem.W.nsIn K mainGlobals "name_number" = some (some (.ref f_name_number)))
  (l_name_number : K.lookup f_name_number = some ⟨oc_name_number, od_name_number, .func (PySem.W.fnOf "name_number" "name_number" (defArgs s_name_number) (defBody s_name_number) (defScope s_name_number) .none kV_name_number dc_name_number pm_name_number an_name_number cd_name_number ct_name_number), sl_name_number⟩)
  (c_name_number : PySem.W.codeIn K cd_name_number "name_number" = true)
  (k_name_number : PySem.W.keepIn K (.ref f_name_number) = true)
  (a_name_of : PySem.W.nsIn K mainGlobals "name_of" = some (some (.ref f_name_of)))
  (l_name_of : K.lookup f_name_of = some ⟨oc_name_of, od_name_of, .func (PySem.W.fnOf "name_of" "name_of" (defArgs s_name_of) (defBody s_name_of) (defScope s_name_of) .none kV_name_of dc_name_of pm_name_of an_name_of cd_name_of ct_name_of), sl_name_of⟩)
  (c_name_of : PySem.W.codeIn K cd_name_of "name_of" = true)
  (k_name_of : PySem.W.keepIn K (.ref f_name_of) = true)
  (a_root_numbers : PySem.W.nsIn K mainGlobals "root_numbers" = some (some (.ref f_root_numbers)))
  (l_root_numbers : K.lookup f_root_numbers = some ⟨oc_root_numbers, od_root_numbers, .func (PySem.W.fnOf "root_numbers" "root_numbers" (defArgs s_root_numbers) (defBody s_root_numbers) (defScope s_root_numbers) .none kV_root_numbers dc_root_numbers pm_root_numbers an_root_numbers cd_root_numbers ct_root_numbers), sl_root_numbers⟩)
  (c_root_numbers : PySem.W.codeIn K cd_root_numbers "root_numbers" = true)
  (k_root_numbers : PySem.W.keepIn K (.ref f_root_numbers) = true)
  (a_book_numbers : PySem.W.nsIn K mainGlobals "book_numbers" = some (some (.ref f_book_numbers)))
  (l_book_numbers : K.lookup f_book_numbers = some ⟨oc_book_numbers, od_book_numbers, .func (PySem.W.fnOf "book_numbers" "book_numbers" (defArgs s_book_numbers) (defBody s_book_numbers) (defScope s_book_numbers) .none kV_book_numbers dc_book_numbers pm_book_numbers an_book_numbers cd_book_numbers ct_book_numbers), sl_book_numbers⟩)
  (c_book_numbers : PySem.W.codeIn K cd_book_numbers "book_numbers" = true)
  (k_book_numbers : PySem.W.keepIn K (.ref f_book_numbers) = true)
  (a_Root___init__ : PySem.W.findIn K (.ref C_Root) "__init__" = some (some (.ref f_Root___init__)))
  (fn_Root___init__ : PySem.W.isFn K (.ref f_Root___init__) = true)
  (l_Root___init__ : K.lookup f_Root___init__ = some ⟨oc_Root___init__, od_Root___init__, .func (PySem.W.fnOf "__init__" "Root.__init__" (defArgs s_Root___init__) (defBody s_Root___init__) (defScope s_Root___init__) .none kV_Root___init__ dc_Root___init__ pm_Root___init__ an_Root___init__ cd_Root___init__ ct_Root___init__), sl_Root___init__⟩)
  (c_Root___init__ : PySem.W.codeIn K cd_Root___init__ "Root.__init__" = true)
  (k_Root___init__ : PySem.W.keepIn K (.ref f_Root___init__) = true)
  (a_root_of : PySem.W.nsIn K mainGlobals "root_of" = some (some (.ref f_root_of)))
  (l_root_of : K.lookup f_root_of = some ⟨oc_root_of, od_root_of, .func (PySem.W.fnOf "root_of" "root_of" (defArgs s_root_of) (defBody s_root_of) (defScope s_root_of) .none kV_root_of dc_root_of pm_root_of an_root_of cd_root_of ct_root_of), sl_root_of⟩)
  (c_root_of : PySem.W.codeIn K cd_root_of "root_of" = true)
  (k_root_of : PySem.W.keepIn K (.ref f_root_of) = true)
  (a_Volume___init__ : PySem.W.findIn K (.ref C_Volume) "__init__" = some (some (.ref f_Volume___init__)))
  (fn_Volume___init__ : PySem.W.isFn K (.ref f_Volume___init__) = true)
  (l_Volume___init__ : K.lookup f_Volume___init__ = some ⟨oc_Volume___init__, od_Volume___init__, .func (PySem.W.fnOf "__init__" "Volume.__init__" (defArgs s_Volume___init__) (defBody s_Volume___init__) (defScope s_Volume___init__) .none kV_Volume___init__ dc_Volume___init__ pm_Volume___init__ an_Volume___init__ cd_Volume___init__ ct_Volume___init__), sl_Volume___init__⟩)
  (c_Volume___init__ : PySem.W.codeIn K cd_Volume___init__ "Volume.__init__" = true)
  (k_Volume___init__ : PySem.W.keepIn K (.ref f_Volume___init__) = true)
  (a_Book___init__ : PySem.W.findIn K (.ref C_Book) "__init__" = some (some (.ref f_Book___init__)))
  (fn_Book___init__ : PySem.W.isFn K (.ref f_Book___init__) = true)
  (l_Book___init__ : K.lookup f_Book___init__ = some ⟨oc_Book___init__, od_Book___init__, .func (PySem.W.fnOf "__init__" "Book.__init__" (defArgs s_Book___init__) (defBody s_Book___init__) (defScope s_Book___init__) .none kV_Book___init__ dc_Book___init__ pm_Book___init__ an_Book___init__ cd_Book___init__ ct_Book___init__), sl_Book___init__⟩)
  (c_Book___init__ : PySem.W.codeIn K cd_Book___init__ "Book.__init__" = true)
  (k_Book___init__ : PySem.W.keepIn K (.ref f_Book___init__) = true)
  (a_book_of : PySem.W.nsIn K mainGlobals "book_of" = some (some (.ref f_book_of)))
  (l_book_of : K.lookup f_book_of = some ⟨oc_book_of, od_book_of, .func (PySem.W.fnOf "book_of" "book_of" (defArgs s_book_of) (defBody s_book_of) (defScope s_book_of) .none kV_book_of dc_book_of pm_book_of an_book_of cd_book_of ct_book_of), sl_book_of⟩)
  (c_book_of : PySem.W.codeIn K cd_book_of "book_of" = true)
  (k_book_of : PySem.W.keepIn K (.ref f_book_of) = true)
  (a_pages_of : PySem.W.nsIn K mainGlobals "pages_of" = some (some (.ref f_pages_of)))
  (l_pages_of : K.lookup f_pages_of = some ⟨oc_pages_of, od_pages_of, .func (PySem.W.fnOf "pages_of" "pages_of" (defArgs s_pages_of) (defBody s_pages_of) (defScope s_pages_of) .none kV_pages_of dc_pages_of pm_pages_of an_pages_of cd_pages_of ct_pages_of), sl_pages_of⟩)
  (c_pages_of : PySem.W.codeIn K cd_pages_of "pages_of" = true)
  (k_pages_of : PySem.W.keepIn K (.ref f_pages_of) = true)
  (a_need_fitting : PySem.W.nsIn K mainGlobals "need_fitting" = some (some (.ref f_need_fitting)))
  (l_need_fitting : K.lookup f_need_fitting = some ⟨oc_need_fitting, od_need_fitting, .func (PySem.W.fnOf "need_fitting" "need_fitting" (defArgs s_need_fitting) (defBody s_need_fitting) (defScope s_need_fitting) .none kV_need_fitting dc_need_fitting pm_need_fitting an_need_fitting cd_need_fitting ct_need_fitting), sl_need_fitting⟩)
  (c_need_fitting : PySem.W.codeIn K cd_need_fitting "need_fitting" = true)
  (k_need_fitting : PySem.W.keepIn K (.ref f_need_fitting) = true)
  (a_check_of : PySem.W.nsIn K mainGlobals "check_of" = some (some (.ref f_check_of)))
  (l_check_of : K.lookup f_check_of = some ⟨oc_check_of, od_check_of, .func (PySem.W.fnOf "check_of" "check_of" (defArgs s_check_of) (defBody s_check_of) (defScope s_check_of) .none kV_check_of dc_check_of pm_check_of an_check_of cd_check_of ct_check_of), sl_check_of⟩)
  (c_check_of : PySem.W.codeIn K cd_check_of "check_of" = true)
  (k_check_of : PySem.W.keepIn K (.ref f_check_of) = true)
  (a_made_row : PySem.W.nsIn K mainGlobals "made_row" = some (some (.ref f_made_row)))
  (l_made_row : K.lookup f_made_row = some ⟨oc_made_row, od_made_row, .func (PySem.W.fnOf "made_row" "made_row" (defArgs s_made_row) (defBody s_made_row) (defScope s_made_row) .none kV_made_row dc_made_row pm_made_row an_made_row cd_made_row ct_made_row), sl_made_row⟩)
  (c_made_row : PySem.W.codeIn K cd_made_row "made_row" = true)
  (k_made_row : PySem.W.keepIn K (.ref f_made_row) = true)
  (a_page_rows : PySem.W.nsIn K mainGlobals "page_rows" = some (some (.ref f_page_rows)))
  (l_page_rows : K.lookup f_page_rows = some ⟨oc_page_rows, od_page_rows, .func (PySem.W.fnOf "page_rows" "page_rows" (defArgs s_page_rows) (defBody s_page_rows) (defScope s_page_rows) .none kV_page_rows dc_page_rows pm_page_rows an_page_rows cd_page_rows ct_page_rows), sl_page_rows⟩)
  (c_page_rows : PySem.W.codeIn K cd_page_rows "page_rows" = true)
  (k_page_rows : PySem.W.keepIn K (.ref f_page_rows) = true)
  (a__law_pool : PySem.W.nsIn K mainGlobals "_law_pool" = some (some (.ref f__law_pool)))
  (l__law_pool : K.lookup f__law_pool = some ⟨oc__law_pool, od__law_pool, .func (PySem.W.fnOf "_law_pool" "_law_pool" (defArgs s__law_pool) (defBody s__law_pool) (defScope s__law_pool) .none kV__law_pool dc__law_pool pm__law_pool an__law_pool cd__law_pool ct__law_pool), sl__law_pool⟩)
  (c__law_pool : PySem.W.codeIn K cd__law_pool "_law_pool" = true)
  (k__law_pool : PySem.W.keepIn K (.ref f__law_pool) = true)
  (a__law_take : PySem.W.nsIn K mainGlobals "_law_take" = some (some (.ref f__law_take)))
  (l__law_take : K.lookup f__law_take = some ⟨oc__law_take, od__law_take, .func (PySem.W.fnOf "_law_take" "_law_take" (defArgs s__law_take) (defBody s__law_take) (defScope s__law_take) .none kV__law_take dc__law_take pm__law_take an__law_take cd__law_take ct__law_take), sl__law_take⟩)
  (c__law_take : PySem.W.codeIn K cd__law_take "_law_take" = true)
  (k__law_take : PySem.W.keepIn K (.ref f__law_take) = true)
  (a__law_one : PySem.W.nsIn K mainGlobals "_law_one" = some (some (.ref f__law_one)))
  (l__law_one : K.lookup f__law_one = some ⟨oc__law_one, od__law_one, .func (PySem.W.fnOf "_law_one" "_law_one" (defArgs s__law_one) (defBody s__law_one) (defScope s__law_one) .none kV__law_one dc__law_one pm__law_one an__law_one cd__law_one ct__law_one), sl__law_one⟩)
  (c__law_one : PySem.W.codeIn K cd__law_one "_law_one" = true)
  (k__law_one : PySem.W.keepIn K (.ref f__law_one) = true)
  (a__law_numbers : PySem.W.nsIn K mainGlobals "_law_numbers" = some (some (.ref f__law_numbers)))
  (l__law_numbers : K.lookup f__law_numbers = some ⟨oc__law_numbers, od__law_numbers, .func (PySem.W.fnOf "_law_numbers" "_law_numbers" (defArgs s__law_numbers) (defBody s__law_numbers) (defScope s__law_numbers) .none kV__law_numbers dc__law_numbers pm__law_numbers an__law_numbers cd__law_numbers ct__law_numbers), sl__law_numbers⟩)
  (c__law_numbers : PySem.W.codeIn K cd__law_numbers "_law_numbers" = true)
  (k__law_numbers : PySem.W.keepIn K (.ref f__law_numbers) = true)
  (a__law_fitting : PySem.W.nsIn K mainGlobals "_law_fitting" = some (some (.ref f__law_fitting)))
  (l__law_fitting : K.lookup f__law_fitting = some ⟨oc__law_fitting, od__law_fitting, .func (PySem.W.fnOf "_law_fitting" "_law_fitting" (defArgs s__law_fitting) (defBody s__law_fitting) (defScope s__law_fitting) .none kV__law_fitting dc__law_fitting pm__law_fitting an__law_fitting cd__law_fitting ct__law_fitting), sl__law_fitting⟩)
  (c__law_fitting : PySem.W.codeIn K cd__law_fitting "_law_fitting" = true)
  (k__law_fitting : PySem.W.keepIn K (.ref f__law_fitting) = true)
  (a__law_size : PySem.W.nsIn K mainGlobals "_law_size" = some (some (.ref f__law_size)))
  (l__law_size : K.lookup f__law_size = some ⟨oc__law_size, od__law_size, .func (PySem.W.fnOf "_law_size" "_law_size" (defArgs s__law_size) (defBody s__law_size) (defScope s__law_size) .none kV__law_size dc__law_size pm__law_size an__law_size cd__law_size ct__law_size), sl__law_size⟩)
  (c__law_size : PySem.W.codeIn K cd__law_size "_law_size" = true)
  (k__law_size : PySem.W.keepIn K (.ref f__law_size) = true)
  (a_law : PySem.W.nsIn K mainGlobals "law" = some (some (.ref f_law)))
  (l_law : K.lookup f_law = some ⟨oc_law, od_law, .func (PySem.W.fnOf "law" "law" (defArgs s_law) (defBody s_law) (defScope s_law) .none kV_law dc_law pm_law an_law cd_law ct_law), sl_law⟩)
  (c_law : PySem.W.codeIn K cd_law "law" = true)
  (k_law : PySem.W.keepIn K (.ref f_law) = true)
  (pg_Root : PySem.W.plainGet K C_Root Str.empty = true)
  (hd_Root : PySem.W.hasDictIn K C_Root = true)
  (po_Root : PySem.W.plainOver K C_Root = true)
  (se_Root : PySem.W.findIn K (.ref C_Root) "__setattr__" = some (some (.builtin "object.__setattr__")))
  (mK_Root : PySem.W.makesIn K C_Root = true)
  (kc_Root : PySem.W.keepIn K (.ref C_Root) = true)
  (pg_Volume : PySem.W.plainGet K C_Volume Str.empty = true)
  (hd_Volume : PySem.W.hasDictIn K C_Volume = true)
  (po_Volume : PySem.W.plainOver K C_Volume = true)
  (se_Volume : PySem.W.findIn K (.ref C_Volume) "__setattr__" = some (some (.builtin "object.__setattr__")))
  (mK_Volume : PySem.W.makesIn K C_Volume = true)
  (kc_Volume : PySem.W.keepIn K (.ref C_Volume) = true)
  (pg_Book : PySem.W.plainGet K C_Book Str.empty = true)
  (hd_Book : PySem.W.hasDictIn K C_Book = true)
  (po_Book : PySem.W.plainOver K C_Book = true)
  (se_Book : PySem.W.findIn K (.ref C_Book) "__setattr__" = some (some (.builtin "object.__setattr__")))
  (mK_Book : PySem.W.makesIn K C_Book = true)
  (kc_Book : PySem.W.keepIn K (.ref C_Book) = true)
  (nA_Root_dead : PySem.W.findIn K (.ref C_Root) "dead" = some none)
  (nA_Volume_head : PySem.W.findIn K (.ref C_Volume) "head" = some none)
  (nA_Root_ident : PySem.W.findIn K (.ref C_Root) "ident" = some none)
  (nA_Root_mark : PySem.W.findIn K (.ref C_Root) "mark" = some none)
  (nA_Volume_name : PySem.W.findIn K (.ref C_Volume) "name" = some none)
  (nA_Book_next_id : PySem.W.findIn K (.ref C_Book) "next_id" = some none)
  (nA_Root_prev : PySem.W.findIn K (.ref C_Root) "prev" = some none)
  (nA_Volume_quota : PySem.W.findIn K (.ref C_Volume) "quota" = some none)
  (nA_Book_roots : PySem.W.findIn K (.ref C_Book) "roots" = some none)
  (nA_Root_snap : PySem.W.findIn K (.ref C_Root) "snap" = some none)
  (nA_Root_time : PySem.W.findIn K (.ref C_Root) "time" = some none)
  (nA_Root_top : PySem.W.findIn K (.ref C_Root) "top" = some none)
  (nA_Root_volume : PySem.W.findIn K (.ref C_Root) "volume" = some none)
  (nA_Book_volumes : PySem.W.findIn K (.ref C_Book) "volumes" = some none)
  (z_AREA_CELLS : PySem.W.nsIn K mainGlobals "AREA_CELLS" = some (some (.int 11 t_AREA_CELLS)))
  (z_BASE : PySem.W.nsIn K mainGlobals "BASE" = some (some (.int 27 t_BASE)))
  (z_LETTERS : PySem.W.nsIn K mainGlobals "LETTERS" = some (some (.str "abcdefghijklmnopqrstuvwxyz" t_LETTERS)))
  (z_MODULUS : PySem.W.nsIn K mainGlobals "MODULUS" = some (some (.int 1000003 t_MODULUS)))
  (z_PAGE : PySem.W.nsIn K mainGlobals "PAGE" = some (some (.int 2 t_PAGE)))
  (z_PAGES : PySem.W.nsIn K mainGlobals "PAGES" = some (some (.int 10 t_PAGES)))
  (z_PAGE_NUMBERS : PySem.W.nsIn K mainGlobals "PAGE_NUMBERS" = some (some (.int 60 t_PAGE_NUMBERS)))
  (z_ROOT_NUMBERS : PySem.W.nsIn K mainGlobals "ROOT_NUMBERS" = some (some (.int 10 t_ROOT_NUMBERS)))
  (z_VOLUME_NUMBERS : PySem.W.nsIn K mainGlobals "VOLUME_NUMBERS" = some (some (.int 3 t_VOLUME_NUMBERS)))
  (a_Refused : PySem.W.nsIn K mainGlobals "Refused" = some (some (.ref c_Refused)))
  (a_NoRoom : PySem.W.nsIn K mainGlobals "NoRoom" = some (some (.ref c_NoRoom)))
  (a_BookFull : PySem.W.nsIn K mainGlobals "BookFull" = some (some (.ref c_BookFull)))
  (t_I : PySem.W.typeIn K (.ref fI) = some (.type "function"))
  (l_I : K.lookup fI = some ⟨oc_I, od_I, .func (PySem.W.fnOf "__init__" "Refused.__init__" (PySem.ExX.iA ⟨7, 17, 7, 21⟩ ⟨7, 23, 7, 27⟩) (PySem.ExX.iB ⟨8, 8, 8, 12⟩ ⟨8, 8, 8, 17⟩ ⟨8, 20, 8, 24⟩ ⟨8, 8, 8, 24⟩) PySem.ExX.iS .none .none dc_I pm_I an_I cd_I ct_I), sl_I⟩)
  (c_I : PySem.W.codeIn K cd_I "Refused.__init__" = true)
  (xL_BookFull : K.lookup c_BookFull = some (excClassObj nm_BookFull q_BookFull c_BookFull N_BookFull bs_BookFull [.ref c_Refused, .type "ValueError", .type "Exception", .type "BaseException", .type "object"] true sn_BookFull sub_BookFull ab_BookFull col_BookFull dd_BookFull m0_BookFull m1_BookFull m2_BookFull m3_BookFull m5_BookFull "ValueError.__new__"))
  (sa_BookFull : PySem.W.findIn K (.ref c_BookFull) "__setattr__" = some (some (.builtin "object.__setattr__")))
  (ga_BookFull : PySem.W.findIn K (.ref c_BookFull) "__getattribute__" = some (some (.builtin "BaseException.__getattribute__")))
  (gg_BookFull : PySem.W.findIn K (.ref c_BookFull) "__getattr__" = some none)
  (nb_BookFull : PySem.W.findIn K (.ref c_BookFull) "what" = some none)
  (ai_BookFull : PySem.W.findIn K (.ref c_BookFull) "__init__" = some (some (.ref fI)))
  (kC_BookFull : PySem.W.keepIn K (.ref c_BookFull) = true)
  (eC_BookFull : PySem.W.subIn K (.ref c_BookFull) (.type "BaseException") = some true)
  (tC_BookFull : PySem.W.typeIn K (.ref c_BookFull) = some (.type "type"))
  (hC_BookFull : PySem.W.hasDictIn K c_BookFull = true)
  (iC_BookFull : PySem.W.isClsIn K c_BookFull = true)
  (cA_BookFull : PySem.W.findIn K (.ref c_BookFull) "__class__" = some (some (.builtin "object.__class__")))
  (mO_BookFull : PySem.W.mroIn K c_BookFull (.type "object") = some true)
  (sp_get : PySem.W.specialIn K (.builtin "object.__class__") "__get__" = some (some (.builtin "getset_descriptor.__get__")))
  (tk_cls : PySem.W.takesIn K (.builtin "object.__class__") = some true)
  (m_BookFull_BookFull : PySem.W.exmOne K (.ref c_BookFull) (.ref c_BookFull) = some true)
  (k_BookFull__NoRoom : PySem.W.kitOne K (.ref c_BookFull) (.ref c_NoRoom) = some false)
  (k_BookFull__Refused : PySem.W.kitOne K (.ref c_BookFull) (.ref c_Refused) = some true)
  (k_BookFull__ValueError : PySem.W.kitOne K (.ref c_BookFull) (.type "ValueError") = some true)
  (z_ValueError : PySem.W.nsIn K mainGlobals "ValueError" = some none)
  (z_enumerate : PySem.W.nsIn K mainGlobals "enumerate" = some none)
  (z_int : PySem.W.nsIn K mainGlobals "int" = some none)
  (z_isinstance : PySem.W.nsIn K mainGlobals "isinstance" = some none)
  (z_len : PySem.W.nsIn K mainGlobals "len" = some none)
  (z_list : PySem.W.nsIn K mainGlobals "list" = some none)
  (z_max : PySem.W.nsIn K mainGlobals "max" = some none)
  (z_min : PySem.W.nsIn K mainGlobals "min" = some none)
  (z_range : PySem.W.nsIn K mainGlobals "range" = some none)
  (z_sorted : PySem.W.nsIn K mainGlobals "sorted" = some none)
  (z_tuple : PySem.W.nsIn K mainGlobals "tuple" = some none) :
    ∃ fd : FuncData, (∀ (s : Shared) (v : Value), BindsTo s fd ⟨[v], []⟩ [("_law_script", v)]) ∧ ∀ base : Heap, K.In base → base.Ns mainGlobals mg → FnOk l.prog w K mg base (L2.CX l.prog w) 6 fa fd ["_law_script"] (spLaw K) := by
  have e := hfa.symm.trans (PySem.W.mg_of X G a_law)
  cases e
  have F_page_place := fun_mk (st := s_page_place) l_page_place c_page_place k_page_place
  have B_page_place := F_page_place.binds (ps := ["area", "i"]) fun _ _ _ _ _ _ us hl => match us, hl with | [_, _], _ => rfl
  have F_name_number := fun_mk (st := s_name_number) l_name_number c_name_number k_name_number
  have B_name_number := F_name_number.binds (ps := ["name"]) fun _ _ _ _ _ _ us hl => match us, hl with | [_], _ => rfl
  have F_name_of := fun_mk (st := s_name_of) l_name_of c_name_of k_name_of
  have B_name_of := F_name_of.binds (ps := ["number"]) fun _ _ _ _ _ _ us hl => match us, hl with | [_], _ => rfl
  have F_root_numbers := fun_mk (st := s_root_numbers) l_root_numbers c_root_numbers k_root_numbers
  have B_root_numbers := F_root_numbers.binds (ps := ["root"]) fun _ _ _ _ _ _ us hl => match us, hl with | [_], _ => rfl
  have F_book_numbers := fun_mk (st := s_book_numbers) l_book_numbers c_book_numbers k_book_numbers
  have B_book_numbers := F_book_numbers.binds (ps := ["book"]) fun _ _ _ _ _ _ us hl => match us, hl with | [_], _ => rfl
  have F_Root___init__ := fun_mk (st := s_Root___init__) l_Root___init__ c_Root___init__ k_Root___init__
  have B_Root___init__ := F_Root___init__.binds (ps := ["self", "ident", "volume", "snap", "prev", "time", "mark", "top", "dead"]) fun _ _ _ _ _ _ us hl => match us, hl with | [_, _, _, _, _, _, _, _, _], _ => rfl
  have F_root_of := fun_mk (st := s_root_of) l_root_of c_root_of k_root_of
  have B_root_of := F_root_of.binds (ps := ["numbers", "at"]) fun _ _ _ _ _ _ us hl => match us, hl with | [_, _], _ => rfl
  have F_Volume___init__ := fun_mk (st := s_Volume___init__) l_Volume___init__ c_Volume___init__ k_Volume___init__
  have B_Volume___init__ := F_Volume___init__.binds (ps := ["self", "name", "quota", "head"]) fun _ _ _ _ _ _ us hl => match us, hl with | [_, _, _, _], _ => rfl
  have F_Book___init__ := fun_mk (st := s_Book___init__) l_Book___init__ c_Book___init__ k_Book___init__
  have B_Book___init__ := F_Book___init__.binds (ps := ["self"]) fun _ _ _ _ _ _ us hl => match us, hl with | [_], _ => rfl
  have F_book_of := fun_mk (st := s_book_of) l_book_of c_book_of k_book_of
  have B_book_of := F_book_of.binds (ps := ["numbers"]) fun _ _ _ _ _ _ us hl => match us, hl with | [_], _ => rfl
  have F_pages_of := fun_mk (st := s_pages_of) l_pages_of c_pages_of k_pages_of
  have B_pages_of := F_pages_of.binds (ps := ["numbers"]) fun _ _ _ _ _ _ us hl => match us, hl with | [_], _ => rfl
  have F_need_fitting := fun_mk (st := s_need_fitting) l_need_fitting c_need_fitting k_need_fitting
  have B_need_fitting := F_need_fitting.binds (ps := ["book"]) fun _ _ _ _ _ _ us hl => match us, hl with | [_], _ => rfl
  have F_check_of := fun_mk (st := s_check_of) l_check_of c_check_of k_check_of
  have B_check_of := F_check_of.binds (ps := ["numbers"]) fun _ _ _ _ _ _ us hl => match us, hl with | [_], _ => rfl
  have F_made_row := fun_mk (st := s_made_row) l_made_row c_made_row k_made_row
  have B_made_row := F_made_row.binds (ps := ["kind", "place", "number", "payload"]) fun _ _ _ _ _ _ us hl => match us, hl with | [_, _, _, _], _ => rfl
  have F_page_rows := fun_mk (st := s_page_rows) l_page_rows c_page_rows k_page_rows
  have B_page_rows := F_page_rows.binds (ps := ["area", "number", "numbers"]) fun _ _ _ _ _ _ us hl => match us, hl with | [_, _, _], _ => rfl
  have F__law_pool := fun_mk (st := s__law_pool) l__law_pool c__law_pool k__law_pool
  have B__law_pool := F__law_pool.binds (ps := ["_law_script", "_law_k"]) fun _ _ _ _ _ _ us hl => match us, hl with | [_, _], _ => rfl
  have F__law_take := fun_mk (st := s__law_take) l__law_take c__law_take k__law_take
  have B__law_take := F__law_take.binds (ps := ["_law_source", "_law_top_it"]) fun _ _ _ _ _ _ us hl => match us, hl with | [_, _], _ => rfl
  have F__law_one := fun_mk (st := s__law_one) l__law_one c__law_one k__law_one
  have B__law_one := F__law_one.binds (ps := ["_law_source", "_law_things"]) fun _ _ _ _ _ _ us hl => match us, hl with | [_, _], _ => rfl
  have F__law_numbers := fun_mk (st := s__law_numbers) l__law_numbers c__law_numbers k__law_numbers
  have B__law_numbers := F__law_numbers.binds (ps := ["_law_many"]) fun _ _ _ _ _ _ us hl => match us, hl with | [_], _ => rfl
  have F__law_fitting := fun_mk (st := s__law_fitting) l__law_fitting c__law_fitting k__law_fitting
  have B__law_fitting := F__law_fitting.binds (ps := ["_law_book"]) fun _ _ _ _ _ _ us hl => match us, hl with | [_], _ => rfl
  have F__law_size := fun_mk (st := s__law_size) l__law_size c__law_size k__law_size
  have B__law_size := F__law_size.binds (ps := ["_law_source"]) fun _ _ _ _ _ _ us hl => match us, hl with | [_], _ => rfl
  have F_law := fun_mk (st := s_law) l_law c_law k_law
  have B_law := F_law.binds (ps := ["_law_script"]) fun _ _ _ _ _ _ us hl => match us, hl with | [_], _ => rfl
  refine ⟨PySem.W.fnOf "law" "law" (defArgs s_law) (defBody s_law) (defScope s_law) .none kV_law dc_law pm_law an_law cd_law ct_law, fun s v => .of_eq rfl, fun base _ _ => ?_⟩
  have x_BookFull : PySem.ExX.ExTxt K mg "BookFull" c_BookFull fI := { gC := PySem.W.mg_of X G a_BookFull, cls := ⟨nm_BookFull, q_BookFull, N_BookFull, bs_BookFull, _, sn_BookFull, sub_BookFull, ab_BookFull, col_BookFull, dd_BookFull, m0_BookFull, m1_BookFull, m2_BookFull, m3_BookFull, m5_BookFull, xL_BookFull, by rfl⟩, sa := sa_BookFull, ga := ga_BookFull, gg := gg_BookFull, noN := nb_BookFull, iC := ai_BookFull, tC := t_I, kC := kC_BookFull, exC := eC_BookFull, tyC := tC_BookFull, hdC := hC_BookFull, fn := ⟨_, _, _, _, _, _, _, _, _, _, _, _, _, _, l_I, c_I⟩ }
  have exs_all : ∀ C ∈ ([c_BookFull] : List Addr), ∃ nx fI, PySem.ExX.ExTxt K mg nx C fI := (fun C hC => by have e := List.mem_singleton.mp hC; subst e; exact ⟨_, _, x_BookFull⟩)
  have iss_all : ∀ C ∈ ([c_BookFull] : List Addr), ExIs K C := (fun C hC => by have e := List.mem_singleton.mp hC; subst e; exact ⟨iC_BookFull, ga_BookFull, gg_BookFull, eC_BookFull, cA_BookFull, sp_get, tk_cls, mO_BookFull⟩)
  have T : Txt K mg ⟨f_page_place, _, f_name_number, _, f_name_of, _, f_root_numbers, _, f_book_numbers, _, f_Root___init__, _, f_root_of, _, f_Volume___init__, _, f_Book___init__, _, f_book_of, _, f_pages_of, _, f_need_fitting, _, f_check_of, _, f_made_row, _, f_page_rows, _, f__law_pool, _, f__law_take, _, f__law_one, _, f__law_numbers, _, f__law_fitting, _, f__law_size, _, fa, _, t_AREA_CELLS, t_BASE, t_LETTERS, t_MODULUS, t_PAGE, t_PAGES, t_PAGE_NUMBERS, t_ROOT_NUMBERS, t_VOLUME_NUMBERS, c_Refused, c_NoRoom, c_BookFull, C_Root, C_Volume, C_Book, fI⟩ := ⟨F_page_place, B_page_place, PySem.W.mg_of X G a_page_place, F_name_number, B_name_number, PySem.W.mg_of X G a_name_number, F_name_of, B_name_of, PySem.W.mg_of X G a_name_of, F_root_numbers, B_root_numbers, PySem.W.mg_of X G a_root_numbers, F_book_numbers, B_book_numbers, PySem.W.mg_of X G a_book_numbers, F_Root___init__, B_Root___init__, ⟨mK_Root, a_Root___init__, fn_Root___init__, kc_Root⟩, F_root_of, B_root_of, PySem.W.mg_of X G a_root_of, F_Volume___init__, B_Volume___init__, ⟨mK_Volume, a_Volume___init__, fn_Volume___init__, kc_Volume⟩, F_Book___init__, B_Book___init__, ⟨mK_Book, a_Book___init__, fn_Book___init__, kc_Book⟩, F_book_of, B_book_of, PySem.W.mg_of X G a_book_of, F_pages_of, B_pages_of, PySem.W.mg_of X G a_pages_of, F_need_fitting, B_need_fitting, PySem.W.mg_of X G a_need_fitting, F_check_of, B_check_of, PySem.W.mg_of X G a_check_of, F_made_row, B_made_row, PySem.W.mg_of X G a_made_row, F_page_rows, B_page_rows, PySem.W.mg_of X G a_page_rows, F__law_pool, B__law_pool, PySem.W.mg_of X G a__law_pool, F__law_take, B__law_take, PySem.W.mg_of X G a__law_take, F__law_one, B__law_one, PySem.W.mg_of X G a__law_one, F__law_numbers, B__law_numbers, PySem.W.mg_of X G a__law_numbers, F__law_fitting, B__law_fitting, PySem.W.mg_of X G a__law_fitting, F__law_size, B__law_size, PySem.W.mg_of X G a__law_size, F_law, B_law, PySem.W.mg_of X G a_law, PySem.W.mg_of X G gC_Root, ⟨pg_Root, hd_Root, po_Root, se_Root⟩, PySem.W.mg_of X G gC_Volume, ⟨pg_Volume, hd_Volume, po_Volume, se_Volume⟩, PySem.W.mg_of X G gC_Book, ⟨pg_Book, hd_Book, po_Book, se_Book⟩, nA_Root_dead, nA_Volume_head, nA_Root_ident, nA_Root_mark, nA_Volume_name, nA_Book_next_id, nA_Root_prev, nA_Volume_quota, nA_Book_roots, nA_Root_snap, nA_Root_time, nA_Root_top, nA_Root_volume, nA_Book_volumes, PySem.W.mg_of X G z_AREA_CELLS, PySem.W.mg_of X G z_BASE, PySem.W.mg_of X G z_LETTERS, PySem.W.mg_of X G z_MODULUS, PySem.W.mg_of X G z_PAGE, PySem.W.mg_of X G z_PAGES, PySem.W.mg_of X G z_PAGE_NUMBERS, PySem.W.mg_of X G z_ROOT_NUMBERS, PySem.W.mg_of X G z_VOLUME_NUMBERS, PySem.W.mg_none_of X G z_ValueError, PySem.W.mg_none_of X G z_enumerate, PySem.W.mg_none_of X G z_int, PySem.W.mg_none_of X G z_isinstance, PySem.W.mg_none_of X G z_len, PySem.W.mg_none_of X G z_list, PySem.W.mg_none_of X G z_max, PySem.W.mg_none_of X G z_min, PySem.W.mg_none_of X G z_range, PySem.W.mg_none_of X G z_sorted, PySem.W.mg_none_of X G z_tuple, PySem.W.mg_of X G a_Refused, PySem.W.mg_of X G a_NoRoom, PySem.W.mg_of X G a_BookFull, x_BookFull, exs_all, iss_all, (fun c h => match c, h with | 0, _ => m_BookFull_BookFull | n + 1, h => absurd h (by omega)), (fun c h => match c, h with | 0, _ => k_BookFull__NoRoom | n + 1, h => absurd h (by omega)), (fun c h => match c, h with | 0, _ => k_BookFull__Refused | n + 1, h => absurd h (by omega)), (fun c h => match c, h with | 0, _ => k_BookFull__ValueError | n + 1, h => absurd h (by omega))⟩
  exact (ok_law (P := l.prog) (w := w) (base := base) T).imp fun vs H Q E q => law_imp (T := tb K _) rfl rfl law_run vs H Q E q
end Lw
open PySem PySem.W PyProof.Rows
set_option maxHeartbeats 0 in
theorem PySem.Challenge.cw_bornroots_k11_pages_and_full_books_holds : PySem.Challenge.rw_bornroots_k11_pages_and_full_books.Holds := by
  w_on; o_law; k_head; (case hw => w_witness2)
  k_fill
  refine L2.walk_of (l := PySem.Challenge.rw_bornroots_k11_pages_and_full_books) (n := 63) (k := 6) (x := "_law_script") (CX := fun w => L2.CX PySem.Challenge.rw_bornroots_k11_pages_and_full_books.prog w) (sp := fun w => Mr.spLaw _) rfl (by decide) rfl ⟨rfl, by decide, by decide⟩ (fun w h Y => PySem.W.kIn_of Y) ?F (fun _ _ a ns hl _ hS => ⟨a, ns, rfl, hS, hl, fun _ => rfl⟩) (fun _ _ _ _ _ z => Mr.noCX z)
  case F =>
    intro w mg fa h KX G hmg
    refine' Lw.all_mk KX G hmg ?gC_Root ?gC_Volume ?gC_Book ?a_page_place ?l_page_place ?c_page_place ?k_page_place ?a_name_number ?l_name_number ?c_name_number ?k_name_number ?a_name_of ?l_name_of ?c_name_of ?k_name_of ?a_root_numbers ?l_root_numbers ?c_root_numbers ?k_root_numbers ?a_book_numbers ?l_book_numbers ?c_book_numbers ?k_book_numbers ?a_Root___init__ ?fn_Root___init__ ?l_Root___init__ ?c_Root___init__ ?k_Root___init__ ?a_root_of ?l_root_of ?c_root_of ?k_root_of ?a_Volume___init__ ?fn_Volume___init__ ?l_Volume___init__ ?c_Volume___init__ ?k_Volume___init__ ?a_Book___init__ ?fn_Book___init__ ?l_Book___init__ ?c_Book___init__ ?k_Book___init__ ?a_book_of ?l_book_of ?c_book_of ?k_book_of ?a_pages_of ?l_pages_of ?c_pages_of ?k_pages_of ?a_need_fitting ?l_need_fitting ?c_need_fitting ?k_need_fitting ?a_check_of ?l_check_of ?c_check_of ?k_check_of ?a_made_row ?l_made_row ?c_made_row ?k_made_row ?a_page_rows ?l_page_rows ?c_page_rows ?k_page_rows ?a__law_pool ?l__law_pool ?c__law_pool ?k__law_pool ?a__law_take ?l__law_take ?c__law_take ?k__law_take ?a__law_one ?l__law_one ?c__law_one ?k__law_one ?a__law_numbers ?l__law_numbers ?c__law_numbers ?k__law_numbers ?a__law_fitting ?l__law_fitting ?c__law_fitting ?k__law_fitting ?a__law_size ?l__law_size ?c__law_size ?k__law_size ?a_law ?l_law ?c_law ?k_law ?pg_Root ?hd_Root ?po_Root ?se_Root ?mK_Root ?kc_Root ?pg_Volume ?hd_Volume ?po_Volume ?se_Volume ?mK_Volume ?kc_Volume ?pg_Book ?hd_Book ?po_Book ?se_Book ?mK_Book ?kc_Book ?nA_Root_dead ?nA_Volume_head ?nA_Root_ident ?nA_Root_mark ?nA_Volume_name ?nA_Book_next_id ?nA_Root_prev ?nA_Volume_quota ?nA_Book_roots ?nA_Root_snap ?nA_Root_time ?nA_Root_top ?nA_Root_volume ?nA_Book_volumes ?z_AREA_CELLS ?z_BASE ?z_LETTERS ?z_MODULUS ?z_PAGE ?z_PAGES ?z_PAGE_NUMBERS ?z_ROOT_NUMBERS ?z_VOLUME_NUMBERS ?a_Refused ?a_NoRoom ?a_BookFull ?t_I ?l_I ?c_I ?xL_BookFull ?sa_BookFull ?ga_BookFull ?gg_BookFull ?nb_BookFull ?ai_BookFull ?kC_BookFull ?eC_BookFull ?tC_BookFull ?hC_BookFull ?iC_BookFull ?cA_BookFull ?mO_BookFull ?sp_get ?tk_cls ?m_BookFull_BookFull ?k_BookFull__NoRoom ?k_BookFull__Refused ?k_BookFull__ValueError ?z_ValueError ?z_enumerate ?z_int ?z_isinstance ?z_len ?z_list ?z_max ?z_min ?z_range ?z_sorted ?z_tuple
    (case gC_Root => k_is)
    (case gC_Volume => k_is)
    (case gC_Book => k_is)
    (case a_page_place => k_is)
    (case l_page_place => k_is)
    (case c_page_place => k_is)
    (case k_page_place => k_is)
    (case a_name_number => k_is)
    (case l_name_number => k_is)
    (case c_name_number => k_is)
    (case k_name_number => k_is)
    (case a_name_of => k_is)
    (case l_name_of => k_is)
    (case c_name_of => k_is)
    (case k_name_of => k_is)
    (case a_root_numbers => k_is)
    (case l_root_numbers => k_is)
    (case c_root_numbers => k_is)
    (case k_root_numbers => k_is)
    (case a_book_numbers => k_is)
    (case l_book_numbers => k_is)
    (case c_book_numbers => k_is)
    (case k_book_numbers => k_is)
    (case a_Root___init__ => k_is)
    (case fn_Root___init__ => k_is)
    (case l_Root___init__ => k_is)
    (case c_Root___init__ => k_is)
    (case k_Root___init__ => k_is)
    (case a_root_of => k_is)
    (case l_root_of => k_is)
    (case c_root_of => k_is)
    (case k_root_of => k_is)
    (case a_Volume___init__ => k_is)
    (case fn_Volume___init__ => k_is)
    (case l_Volume___init__ => k_is)
    (case c_Volume___init__ => k_is)
    (case k_Volume___init__ => k_is)
    (case a_Book___init__ => k_is)
    (case fn_Book___init__ => k_is)
    (case l_Book___init__ => k_is)
    (case c_Book___init__ => k_is)
    (case k_Book___init__ => k_is)
    (case a_book_of => k_is)
    (case l_book_of => k_is)
    (case c_book_of => k_is)
    (case k_book_of => k_is)
    (case a_pages_of => k_is)
    (case l_pages_of => k_is)
    (case c_pages_of => k_is)
    (case k_pages_of => k_is)
    (case a_need_fitting => k_is)
    (case l_need_fitting => k_is)
    (case c_need_fitting => k_is)
    (case k_need_fitting => k_is)
    (case a_check_of => k_is)
    (case l_check_of => k_is)
    (case c_check_of => k_is)
    (case k_check_of => k_is)
    (case a_made_row => k_is)
    (case l_made_row => k_is)
    (case c_made_row => k_is)
    (case k_made_row => k_is)
    (case a_page_rows => k_is)
    (case l_page_rows => k_is)
    (case c_page_rows => k_is)
    (case k_page_rows => k_is)
    (case a__law_pool => k_is)
    (case l__law_pool => k_is)
    (case c__law_pool => k_is)
    (case k__law_pool => k_is)
    (case a__law_take => k_is)
    (case l__law_take => k_is)
    (case c__law_take => k_is)
    (case k__law_take => k_is)
    (case a__law_one => k_is)
    (case l__law_one => k_is)
    (case c__law_one => k_is)
    (case k__law_one => k_is)
    (case a__law_numbers => k_is)
    (case l__law_numbers => k_is)
    (case c__law_numbers => k_is)
    (case k__law_numbers => k_is)
    (case a__law_fitting => k_is)
    (case l__law_fitting => k_is)
    (case c__law_fitting => k_is)
    (case k__law_fitting => k_is)
    (case a__law_size => k_is)
    (case l__law_size => k_is)
    (case c__law_size => k_is)
    (case k__law_size => k_is)
    (case a_law => k_is)
    (case l_law => k_is)
    (case c_law => k_is)
    (case k_law => k_is)
    (case pg_Root => k_is)
    (case hd_Root => k_is)
    (case po_Root => k_is)
    (case se_Root => k_is)
    (case mK_Root => k_is)
    (case kc_Root => k_is)
    (case pg_Volume => k_is)
    (case hd_Volume => k_is)
    (case po_Volume => k_is)
    (case se_Volume => k_is)
    (case mK_Volume => k_is)
    (case kc_Volume => k_is)
    (case pg_Book => k_is)
    (case hd_Book => k_is)
    (case po_Book => k_is)
    (case se_Book => k_is)
    (case mK_Book => k_is)
    (case kc_Book => k_is)
    (case nA_Root_dead => k_is)
    (case nA_Volume_head => k_is)
    (case nA_Root_ident => k_is)
    (case nA_Root_mark => k_is)
    (case nA_Volume_name => k_is)
    (case nA_Book_next_id => k_is)
    (case nA_Root_prev => k_is)
    (case nA_Volume_quota => k_is)
    (case nA_Book_roots => k_is)
    (case nA_Root_snap => k_is)
    (case nA_Root_time => k_is)
    (case nA_Root_top => k_is)
    (case nA_Root_volume => k_is)
    (case nA_Book_volumes => k_is)
    (case z_AREA_CELLS => k_is)
    (case z_BASE => k_is)
    (case z_LETTERS => k_is)
    (case z_MODULUS => k_is)
    (case z_PAGE => k_is)
    (case z_PAGES => k_is)
    (case z_PAGE_NUMBERS => k_is)
    (case z_ROOT_NUMBERS => k_is)
    (case z_VOLUME_NUMBERS => k_is)
    (case a_Refused => k_is)
    (case a_NoRoom => k_is)
    (case a_BookFull => k_is)
    (case xL_BookFull => k_is)
    (case sa_BookFull => k_is)
    (case ga_BookFull => k_is)
    (case gg_BookFull => k_is)
    (case nb_BookFull => k_is)
    (case ai_BookFull => k_is)
    (case kC_BookFull => k_is)
    (case eC_BookFull => k_is)
    (case tC_BookFull => k_is)
    (case hC_BookFull => k_is)
    (case iC_BookFull => k_is)
    (case cA_BookFull => k_is)
    (case mO_BookFull => k_is)
    (case sp_get => k_is)
    (case tk_cls => k_is)
    (case m_BookFull_BookFull => first | rfl | (with_unfolding_all rfl) | k_is)
    (case k_BookFull__NoRoom => first | rfl | (with_unfolding_all rfl) | k_is)
    (case k_BookFull__Refused => first | rfl | (with_unfolding_all rfl) | k_is)
    (case k_BookFull__ValueError => first | rfl | (with_unfolding_all rfl) | k_is)
    (case z_ValueError => k_is)
    (case z_enumerate => k_is)
    (case z_int => k_is)
    (case z_isinstance => k_is)
    (case z_len => k_is)
    (case z_list => k_is)
    (case z_max => k_is)
    (case z_min => k_is)
    (case z_range => k_is)
    (case z_sorted => k_is)
    (case z_tuple => k_is)
    (case t_I => k_is)
    (case l_I => k_is)
    (case c_I => k_is)
